/- The walks of the statements VecShifts and VecNumbers. -/
import Derived.Test.YtaffdpgacggllaaUa
namespace Go.Proofs.Ytaffdpgacggllaa.V
open Go.RowKit Go.Proofs.YtaffdpgacggllaaW.PrintWords Go.Proofs.YtaffdpgacggllaaW.PrintLast Go.Proofs.YtaffdpgacggllaaW.PrintMore
attribute [local go_sem] max2_int min2_int max_two min_two
set_option linter.unusedVariables false
set_option linter.unusedSimpArgs false

set_option maxRecDepth 100000 in
set_option maxHeartbeats 8000000 in
theorem shifts_long (w : World) (a : List Int) (A : Option Addr) (ca : Nat) (ra : Rd w A a) (k : Int) (hk : -9223372036854775808 ≤ k ∧ k ≤ 9223372036854775807) (hl : longB a.length = true) :
    Calls Try.prog 9 #[.slice A a.length ca, .int .i64 k] w fun e w' => e = .returned (.bool true) ∧ Below w.heap.size w w' := by
  have Ra := Aside0.mk ra
  clear ra
  have H := Aside0.mk hl
  clear hl
  have HB0 := Aside0.mk (Below.refl w.heap.size w)
  go_enter Try.func9, Try.ntmps9
  go_wp2_with fail
  refine (long1_calls a A ca w.heap.size _ (Ra.out.al _) ?c0).mono ?_
  case c0 => simp
  rintro e wq ⟨rfl, rfl⟩
  rw [H.out]
  go_wp2_with fail
  have HB1 := Aside0.mk (below_al HB0.out (.cells #[.slice A a.length ca] 29))
  clear HB0
  refine (awake_calls _).mono ?_
  rintro e w1 ⟨rfl, hb⟩
  have HBz := Aside0.mk (below_step HB1.out hb)
  clear hb
  go_wp2_with fail
  go_ret
  exact ⟨rfl, HBz.out⟩
set_option maxRecDepth 100000 in
set_option maxHeartbeats 8000000 in
theorem shifts_ok (w : World) (a : List Int) (A : Option Addr) (ca : Nat) (ra : Rd w A a) (k : Int) (hk : -9223372036854775808 ≤ k ∧ k ≤ 9223372036854775807) (hl : longB a.length = false) :
    Calls Try.prog 9 #[.slice A a.length ca, .int .i64 k] w fun e w' => e = .returned (.bool true) ∧ Below w.heap.size w w' := by
  have la : a.length ≤ 1000 := by simp [longB] at hl; omega
  have Ra := Aside0.mk ra
  clear ra
  have H := Aside0.mk hl
  have K := Aside0.mk hk
  clear hl hk
  have HB0 := Aside0.mk (Below.refl w.heap.size w)
  go_enter Try.func9, Try.ntmps9
  go_wp2_with fail
  refine (long1_calls a A ca w.heap.size _ (Ra.out.al _) ?c0).mono ?_
  case c0 => simp
  rintro e wq ⟨rfl, rfl⟩
  rw [H.out]
  go_wp2_with fail
  refine (copied_calls a _ _ _ (Ra.out.al _) la).mono ?_
  rintro e w1 ⟨v, rfl, ho, hb⟩
  obtain ⟨A_v_1, c_v_1, rfl, h_v_1, hr⟩ := ho.reads
  have HB1 := Aside0.mk (below_step (below_al HB0.out _) hb)
  have Ra_1 := Aside0.mk ((Ra.out.al _).below hb)
  clear HB0 Ra
  have Rv_n1 := Aside0.mk hr
  clear ho hb hr
  go_wp2_with fail
  refine (vecLeft_calls a _ _ _ k Rv_n1.out K.out.2).mono ?_
  rintro e w2 ⟨v, rfl, ho, hb⟩
  obtain ⟨A_p_2, c_p_2, rfl, h_p_2, hr⟩ := ho.reads
  have HB2 := Aside0.mk (below_step HB1.out hb)
  have Ra_2 := Aside0.mk (Ra_1.out.below hb)
  have Rv_2 := Aside0.mk (Rv_n1.out.below hb)
  clear HB1 Ra_1 Rv_n1
  have Rp_n2 := Aside0.mk hr
  clear ho hb hr
  go_wp2_with fail
  refine (refLeft_calls a _ _ _ k Ra_2.out K.out.2).mono ?_
  rintro e w3 ⟨v, rfl, ho, hb⟩
  obtain ⟨A_q_3, c_q_3, rfl, h_q_3, hr⟩ := ho.reads
  have HB3 := Aside0.mk (below_step HB2.out hb)
  have Ra_3 := Aside0.mk (Ra_2.out.below hb)
  have Rv_3 := Aside0.mk (Rv_2.out.below hb)
  have Rp_3 := Aside0.mk (Rp_n2.out.below hb)
  clear HB2 Ra_2 Rv_2 Rp_n2
  have Rq_n3 := Aside0.mk hr
  clear ho hb hr
  go_wp2_with fail
  refine (Same_below _ _ _ _ _ _ _ Rp_3.out Rq_n3.out).mono ?_
  rintro e w4 ⟨rfl, hb⟩
  rw [eqB_refl]
  have HB4 := Aside0.mk (below_step HB3.out hb)
  have Ra_4 := Aside0.mk (Ra_3.out.below hb)
  have Rv_4 := Aside0.mk (Rv_3.out.below hb)
  have Rp_4 := Aside0.mk (Rp_3.out.below hb)
  have Rq_4 := Aside0.mk (Rq_n3.out.below hb)
  clear HB3 Ra_3 Rv_3 Rp_3 Rq_n3
  clear hb
  go_wp2_with fail
  clear Rp_4
  clear Rq_4
  refine (vecRight_calls a _ _ _ k Rv_4.out K.out.2).mono ?_
  rintro e w5 ⟨v, rfl, ho, hb⟩
  obtain ⟨A_p_5, c_p_5, rfl, h_p_5, hr⟩ := ho.reads
  have HB5 := Aside0.mk (below_step HB4.out hb)
  have Ra_5 := Aside0.mk (Ra_4.out.below hb)
  have Rv_5 := Aside0.mk (Rv_4.out.below hb)
  clear HB4 Ra_4 Rv_4
  have Rp_n5 := Aside0.mk hr
  clear ho hb hr
  go_wp2_with fail
  refine (refRight_calls a _ _ _ k Ra_5.out K.out.2).mono ?_
  rintro e w6 ⟨v, rfl, ho, hb⟩
  obtain ⟨A_q_6, c_q_6, rfl, h_q_6, hr⟩ := ho.reads
  have HB6 := Aside0.mk (below_step HB5.out hb)
  have Ra_6 := Aside0.mk (Ra_5.out.below hb)
  have Rv_6 := Aside0.mk (Rv_5.out.below hb)
  have Rp_6 := Aside0.mk (Rp_n5.out.below hb)
  clear HB5 Ra_5 Rv_5 Rp_n5
  have Rq_n6 := Aside0.mk hr
  clear ho hb hr
  go_wp2_with fail
  refine (Same_below _ _ _ _ _ _ _ Rp_6.out Rq_n6.out).mono ?_
  rintro e w7 ⟨rfl, hb⟩
  rw [eqB_refl]
  have HB7 := Aside0.mk (below_step HB6.out hb)
  have Ra_7 := Aside0.mk (Ra_6.out.below hb)
  have Rv_7 := Aside0.mk (Rv_6.out.below hb)
  have Rp_7 := Aside0.mk (Rp_6.out.below hb)
  have Rq_7 := Aside0.mk (Rq_n6.out.below hb)
  clear HB6 Ra_6 Rv_6 Rp_6 Rq_n6
  clear hb
  go_wp2_with fail
  clear Rp_7
  clear Rq_7
  refine (Same_below a a _ _ _ _ _ Ra_7.out Rv_7.out).mono ?_
  rintro e w8 ⟨rfl, hb⟩
  rw [eqB_refl]
  have HB8 := Aside0.mk (below_step HB7.out hb)
  have Ra_8 := Aside0.mk (Ra_7.out.below hb)
  have Rv_8 := Aside0.mk (Rv_7.out.below hb)
  clear HB7 Ra_7 Rv_7
  clear hb
  go_wp2_with fail
  refine (awake_calls _).mono ?_
  rintro e w9 ⟨rfl, hb⟩
  have HBz := Aside0.mk (below_step HB8.out hb)
  clear hb
  go_wp2_with fail
  go_ret
  exact ⟨rfl, HBz.out⟩
set_option maxRecDepth 100000 in
set_option maxHeartbeats 8000000 in
theorem numbers_long (w : World) (a : List Int) (A : Option Addr) (ca : Nat) (ra : Rd w A a) (k : Int) (n : Int) (hk : -9223372036854775808 ≤ k ∧ k ≤ 9223372036854775807) (hl : longB a.length = true) :
    Calls Try.prog 11 #[.slice A a.length ca, .int .i64 k, .int .i64 n] w fun e w' => e = .returned (.bool true) ∧ Below w.heap.size w w' := by
  have Ra := Aside0.mk ra
  clear ra
  have H := Aside0.mk hl
  clear hl
  have HB0 := Aside0.mk (Below.refl w.heap.size w)
  go_enter Try.func11, Try.ntmps11
  go_wp2_with fail
  refine (long1_calls a A ca w.heap.size _ (Ra.out.al _) ?c0).mono ?_
  case c0 => simp
  rintro e wq ⟨rfl, rfl⟩
  rw [H.out]
  go_wp2_with fail
  have HB1 := Aside0.mk (below_al HB0.out (.cells #[.slice A a.length ca] 29))
  clear HB0
  refine (awake_calls _).mono ?_
  rintro e w1 ⟨rfl, hb⟩
  have HBz := Aside0.mk (below_step HB1.out hb)
  clear hb
  go_wp2_with fail
  go_ret
  exact ⟨rfl, HBz.out⟩
set_option maxRecDepth 100000 in
set_option maxHeartbeats 8000000 in
theorem numbers_ok (w : World) (a : List Int) (A : Option Addr) (ca : Nat) (ra : Rd w A a) (k : Int) (n : Int) (hk : -9223372036854775808 ≤ k ∧ k ≤ 9223372036854775807) (hl : longB a.length = false) :
    Calls Try.prog 11 #[.slice A a.length ca, .int .i64 k, .int .i64 n] w fun e w' => e = .returned (.bool true) ∧ Below w.heap.size w w' := by
  have la : a.length ≤ 1000 := by simp [longB] at hl; omega
  have Ra := Aside0.mk ra
  clear ra
  have H := Aside0.mk hl
  have K := Aside0.mk hk
  clear hl hk
  have HB0 := Aside0.mk (Below.refl w.heap.size w)
  go_enter Try.func11, Try.ntmps11
  go_wp2_with fail
  refine (long1_calls a A ca w.heap.size _ (Ra.out.al _) ?c0).mono ?_
  case c0 => simp
  rintro e wq ⟨rfl, rfl⟩
  rw [H.out]
  go_wp2_with fail
  refine (copied_calls a _ _ _ (Ra.out.al _) la).mono ?_
  rintro e w1 ⟨v, rfl, ho, hb⟩
  obtain ⟨A_v_1, c_v_1, rfl, h_v_1, hr⟩ := ho.reads
  have HB1 := Aside0.mk (below_step (below_al HB0.out _) hb)
  have Ra_1 := Aside0.mk ((Ra.out.al _).below hb)
  clear HB0 Ra
  have Rv_n1 := Aside0.mk hr
  clear ho hb hr
  go_wp2_with fail
  refine (vecNumber_calls a _ _ _ Rv_n1.out).mono ?_
  rintro e wq ⟨rfl, rfl⟩
  go_wp2_with fail
  refine (refNumber_calls a _ _ _ Ra_1.out).mono ?_
  rintro e wq ⟨rfl, rfl⟩
  go_wp2_with fail
  refine (vecToInt_calls a _ _ _ Rv_n1.out).mono ?_
  rintro e wq ⟨rfl, rfl⟩
  go_wp2_with fail
  refine (refToInt_calls a _ _ _ Ra_1.out).mono ?_
  rintro e wq ⟨rfl, rfl⟩
  go_wp2_with fail
  refine (vecOf_calls k n _).mono ?_
  rintro e w2 ⟨v, rfl, ho, hb⟩
  obtain ⟨A_p_2, c_p_2, rfl, h_p_2, hr⟩ := ho.reads
  have HB2 := Aside0.mk (below_step HB1.out hb)
  have Ra_2 := Aside0.mk (Ra_1.out.below hb)
  have Rv_2 := Aside0.mk (Rv_n1.out.below hb)
  clear HB1 Ra_1 Rv_n1
  have Rp_n2 := Aside0.mk hr
  clear ho hb hr
  go_wp2_with fail
  refine (refOf_calls k n _ K.out.1 K.out.2).mono ?_
  rintro e w3 ⟨v, rfl, ho, hb⟩
  obtain ⟨A_q_3, c_q_3, rfl, h_q_3, hr⟩ := ho.reads
  have HB3 := Aside0.mk (below_step HB2.out hb)
  have Ra_3 := Aside0.mk (Ra_2.out.below hb)
  have Rv_3 := Aside0.mk (Rv_2.out.below hb)
  have Rp_3 := Aside0.mk (Rp_n2.out.below hb)
  clear HB2 Ra_2 Rv_2 Rp_n2
  have Rq_n3 := Aside0.mk hr
  clear ho hb hr
  go_wp2_with fail
  refine (Same_below _ _ _ _ _ _ _ Rp_3.out Rq_n3.out).mono ?_
  rintro e w4 ⟨rfl, hb⟩
  rw [eqB_refl]
  have HB4 := Aside0.mk (below_step HB3.out hb)
  have Ra_4 := Aside0.mk (Ra_3.out.below hb)
  have Rv_4 := Aside0.mk (Rv_3.out.below hb)
  have Rp_4 := Aside0.mk (Rp_3.out.below hb)
  have Rq_4 := Aside0.mk (Rq_n3.out.below hb)
  clear HB3 Ra_3 Rv_3 Rp_3 Rq_n3
  clear hb
  go_wp2_with fail
  clear Rp_4
  clear Rq_4
  refine (vecToVec_calls k n _).mono ?_
  rintro e w5 ⟨v, rfl, ho, hb⟩
  obtain ⟨A_p_5, c_p_5, rfl, h_p_5, hr⟩ := ho.reads
  have HB5 := Aside0.mk (below_step HB4.out hb)
  have Ra_5 := Aside0.mk (Ra_4.out.below hb)
  have Rv_5 := Aside0.mk (Rv_4.out.below hb)
  clear HB4 Ra_4 Rv_4
  have Rp_n5 := Aside0.mk hr
  clear ho hb hr
  go_wp2_with fail
  refine (refToVec_calls k n _ K.out.1 K.out.2).mono ?_
  rintro e w6 ⟨v, rfl, ho, hb⟩
  obtain ⟨A_q_6, c_q_6, rfl, h_q_6, hr⟩ := ho.reads
  have HB6 := Aside0.mk (below_step HB5.out hb)
  have Ra_6 := Aside0.mk (Ra_5.out.below hb)
  have Rv_6 := Aside0.mk (Rv_5.out.below hb)
  have Rp_6 := Aside0.mk (Rp_n5.out.below hb)
  clear HB5 Ra_5 Rv_5 Rp_n5
  have Rq_n6 := Aside0.mk hr
  clear ho hb hr
  go_wp2_with fail
  refine (Same_below _ _ _ _ _ _ _ Rp_6.out Rq_n6.out).mono ?_
  rintro e w7 ⟨rfl, hb⟩
  rw [eqB_refl]
  have HB7 := Aside0.mk (below_step HB6.out hb)
  have Ra_7 := Aside0.mk (Ra_6.out.below hb)
  have Rv_7 := Aside0.mk (Rv_6.out.below hb)
  have Rp_7 := Aside0.mk (Rp_6.out.below hb)
  have Rq_7 := Aside0.mk (Rq_n6.out.below hb)
  clear HB6 Ra_6 Rv_6 Rp_6 Rq_n6
  clear hb
  go_wp2_with fail
  clear Rp_7
  clear Rq_7
  refine (vecResize_calls a _ _ _ n Rv_7.out).mono ?_
  rintro e w8 ⟨v, rfl, ho, hb⟩
  obtain ⟨A_p_8, c_p_8, rfl, h_p_8, hr⟩ := ho.reads
  have HB8 := Aside0.mk (below_step HB7.out hb)
  have Ra_8 := Aside0.mk (Ra_7.out.below hb)
  have Rv_8 := Aside0.mk (Rv_7.out.below hb)
  clear HB7 Ra_7 Rv_7
  have Rp_n8 := Aside0.mk hr
  clear ho hb hr
  go_wp2_with fail
  refine (refResize_calls a _ _ _ n Ra_8.out).mono ?_
  rintro e w9 ⟨v, rfl, ho, hb⟩
  obtain ⟨A_q_9, c_q_9, rfl, h_q_9, hr⟩ := ho.reads
  have HB9 := Aside0.mk (below_step HB8.out hb)
  have Ra_9 := Aside0.mk (Ra_8.out.below hb)
  have Rv_9 := Aside0.mk (Rv_8.out.below hb)
  have Rp_9 := Aside0.mk (Rp_n8.out.below hb)
  clear HB8 Ra_8 Rv_8 Rp_n8
  have Rq_n9 := Aside0.mk hr
  clear ho hb hr
  go_wp2_with fail
  refine (Same_below _ _ _ _ _ _ _ Rp_9.out Rq_n9.out).mono ?_
  rintro e w10 ⟨rfl, hb⟩
  rw [eqB_refl]
  have HB10 := Aside0.mk (below_step HB9.out hb)
  have Ra_10 := Aside0.mk (Ra_9.out.below hb)
  have Rv_10 := Aside0.mk (Rv_9.out.below hb)
  have Rp_10 := Aside0.mk (Rp_9.out.below hb)
  have Rq_10 := Aside0.mk (Rq_n9.out.below hb)
  clear HB9 Ra_9 Rv_9 Rp_9 Rq_n9
  clear hb
  go_wp2_with fail
  clear Rp_10
  clear Rq_10
  refine (Same_below a a _ _ _ _ _ Ra_10.out Rv_10.out).mono ?_
  rintro e w11 ⟨rfl, hb⟩
  rw [eqB_refl]
  have HB11 := Aside0.mk (below_step HB10.out hb)
  have Ra_11 := Aside0.mk (Ra_10.out.below hb)
  have Rv_11 := Aside0.mk (Rv_10.out.below hb)
  clear HB10 Ra_10 Rv_10
  clear hb
  go_wp2_with fail
  refine (awake_calls _).mono ?_
  rintro e w12 ⟨rfl, hb⟩
  have HBz := Aside0.mk (below_step HB11.out hb)
  clear hb
  go_wp2_with fail
  go_ret
  exact ⟨rfl, HBz.out⟩

theorem int_range {k : Int} (h : (Lit.int .i64 k).wf = true) : -9223372036854775808 ≤ k ∧ k ≤ 9223372036854775807 := by
  simp [Lit.wf, IntKind.min, IntKind.max, IntKind.bits, IntKind.signed] at h
  omega
theorem vecShifts_walk (w : World) (a : List Int) (A : Option Addr) (ca : Nat) (ra : Rd w A a) (hca : a.length ≤ ca) (k : Int) (hk : (Lit.int .i64 k).wf = true) :
    Calls Try.prog 9 #[.slice A a.length ca, .int .i64 k] w fun e w' => e = .returned (.bool true) ∧ Below w.heap.size w w' := by
  cases h : longB a.length
  · exact shifts_ok w a A ca ra k (int_range hk) h
  · exact shifts_long w a A ca ra k (int_range hk) h
theorem vecNumbers_walk (w : World) (a : List Int) (A : Option Addr) (ca : Nat) (ra : Rd w A a) (hca : a.length ≤ ca) (k : Int) (hk : (Lit.int .i64 k).wf = true) (n : Int) (hn : (Lit.int .i64 n).wf = true) :
    Calls Try.prog 11 #[.slice A a.length ca, .int .i64 k, .int .i64 n] w fun e w' => e = .returned (.bool true) ∧ Below w.heap.size w w' := by
  cases h : longB a.length
  · exact numbers_ok w a A ca ra k n (int_range hk) h
  · exact numbers_long w a A ca ra k n (int_range hk) h
end Go.Proofs.Ytaffdpgacggllaa.V
