/- The walk of the statement VecPieces. -/
import Derived.Test.YtaffdpgacggllaaUc
namespace Go.Proofs.Ytaffdpgacggllaa.V
open Go.RowKit Go.Proofs.YtaffdpgacggllaaW.PrintWords Go.Proofs.YtaffdpgacggllaaW.PrintLast Go.Proofs.YtaffdpgacggllaaW.PrintMore
attribute [local go_sem] max2_int min2_int max_two min_two
set_option linter.unusedVariables false
set_option linter.unusedSimpArgs false

set_option maxRecDepth 100000 in
set_option maxHeartbeats 8000000 in
theorem pieces_long (w : World) (a : List Int) (A : Option Addr) (ca : Nat) (ra : Rd w A a) (hca : a.length ≤ ca) (b : List Int) (B : Option Addr) (cb : Nat) (rb : Rd w B b) (hcb : b.length ≤ cb) (h l : Int) (hl : (longB a.length || longB b.length) = true) :
    Calls Try.prog 13 #[.slice A a.length ca, .slice B b.length cb, .agg #[.int .i64 h, .int .i64 l]] w fun e w' => e = .returned (.bool true) ∧ Below w.heap.size w w' := by
  have Ra := Aside0.mk ra
  have Rb := Aside0.mk rb
  clear ra rb
  have H := Aside0.mk hl
  clear hl
  have HB0 := Aside0.mk (Below.refl w.heap.size w)
  go_enter Try.func13, Try.ntmps13
  go_wp2_with fail
  go_quiet (fail)
  have HBq := Aside0.mk (pw_below_drewN (below_al HB0.out (.cells #[.int .i64 h, .int .i64 l] 52)) nq)
  have Raq := Aside0.mk ((Ra.out.al (.cells #[.int .i64 h, .int .i64 l] 52)).drewN nq)
  have Rbq := Aside0.mk ((Rb.out.al (.cells #[.int .i64 h, .int .i64 l] 52)).drewN nq)
  clear HB0 Ra Rb
  generalize (w.alloc (.cells #[.int .i64 h, .int .i64 l] 52)).drewN nq = wq at *
  go_wp2_with fail
  refine (long2_calls a b A B ca cb wq.heap.size _ (Raq.out.al _) (Rbq.out.al _) ?c0 ?c1).mono ?_
  case c0 => simp
  case c1 => simp
  rintro e wz ⟨rfl, rfl⟩
  rw [H.out]
  go_wp2_with fail
  have HB1 := Aside0.mk (below_al HBq.out (.cells #[.slice A a.length ca, .slice B b.length cb] 29))
  refine (awake_calls _).mono ?_
  rintro e w1 ⟨rfl, hb⟩
  have HBz := Aside0.mk (below_step HB1.out hb)
  clear hb
  go_wp2_with fail
  go_ret
  exact ⟨rfl, HBz.out⟩
set_option maxRecDepth 100000 in
set_option maxHeartbeats 8000000 in
theorem pieces_ok (w : World) (a : List Int) (A : Option Addr) (ca : Nat) (ra : Rd w A a) (hca : a.length ≤ ca) (b : List Int) (B : Option Addr) (cb : Nat) (rb : Rd w B b) (hcb : b.length ≤ cb) (h l : Int) (hl : (longB a.length || longB b.length) = false) :
    Calls Try.prog 13 #[.slice A a.length ca, .slice B b.length cb, .agg #[.int .i64 h, .int .i64 l]] w fun e w' => e = .returned (.bool true) ∧ Below w.heap.size w w' := by
  have la : a.length ≤ 1000 := by simp [longB] at hl; omega
  have lb : b.length ≤ 1000 := by simp [longB] at hl; omega
  have Ra := Aside0.mk ra
  have Rb := Aside0.mk rb
  clear ra rb
  have H := Aside0.mk hl
  clear hl
  have HB0 := Aside0.mk (Below.refl w.heap.size w)
  go_enter Try.func13, Try.ntmps13
  go_wp2_with fail
  go_quiet (fail)
  have HBq := Aside0.mk (pw_below_drewN (below_al HB0.out (.cells #[.int .i64 h, .int .i64 l] 52)) nq)
  have Raq := Aside0.mk ((Ra.out.al (.cells #[.int .i64 h, .int .i64 l] 52)).drewN nq)
  have Rbq := Aside0.mk ((Rb.out.al (.cells #[.int .i64 h, .int .i64 l] 52)).drewN nq)
  clear HB0 Ra Rb
  generalize (w.alloc (.cells #[.int .i64 h, .int .i64 l] 52)).drewN nq = wq at *
  go_wp2_with fail
  refine (long2_calls a b A B ca cb wq.heap.size _ (Raq.out.al _) (Rbq.out.al _) ?c0 ?c1).mono ?_
  case c0 => simp
  case c1 => simp
  rintro e wz ⟨rfl, rfl⟩
  rw [H.out]
  go_wp2_with fail
  refine (copied_calls a _ _ _ (Raq.out.al _) la).mono ?_
  rintro e w1 ⟨v, rfl, ho, hb⟩
  obtain ⟨A_v_1, c_v_1, rfl, h_v_1, hr⟩ := ho.reads
  have HB1 := Aside0.mk (below_step (below_al HBq.out _) hb)
  have Ra_1 := Aside0.mk ((Raq.out.al _).below hb)
  have Rb_1 := Aside0.mk ((Rbq.out.al _).below hb)
  clear HBq Raq Rbq
  have Rv_n1 := Aside0.mk hr
  clear ho hb hr
  go_wp2_with fail
  refine (copied_calls b _ _ _ Rb_1.out lb).mono ?_
  rintro e w2 ⟨v, rfl, ho, hb⟩
  obtain ⟨A_u_2, c_u_2, rfl, h_u_2, hr⟩ := ho.reads
  have HB2 := Aside0.mk (below_step HB1.out hb)
  have Ra_2 := Aside0.mk (Ra_1.out.below hb)
  have Rb_2 := Aside0.mk (Rb_1.out.below hb)
  have Rv_2 := Aside0.mk (Rv_n1.out.below hb)
  clear HB1 Ra_1 Rb_1 Rv_n1
  have Ru_n2 := Aside0.mk hr
  clear ho hb hr
  go_wp2_with fail
  refine (vecCat_calls a b _ _ _ _ _ Rv_2.out Ru_n2.out).mono ?_
  rintro e w3 ⟨v, rfl, ho, hb⟩
  obtain ⟨A_p_3, c_p_3, rfl, h_p_3, hr⟩ := ho.reads
  have HB3 := Aside0.mk (below_step HB2.out hb)
  have Ra_3 := Aside0.mk (Ra_2.out.below hb)
  have Rb_3 := Aside0.mk (Rb_2.out.below hb)
  have Rv_3 := Aside0.mk (Rv_2.out.below hb)
  have Ru_3 := Aside0.mk (Ru_n2.out.below hb)
  clear HB2 Ra_2 Rb_2 Rv_2 Ru_n2
  have Rp_n3 := Aside0.mk hr
  clear ho hb hr
  go_wp2_with fail
  refine (refCat_calls a b _ _ _ _ _ Ra_3.out Rb_3.out).mono ?_
  rintro e w4 ⟨v, rfl, ho, hb⟩
  obtain ⟨A_q_4, c_q_4, rfl, h_q_4, hr⟩ := ho.reads
  have HB4 := Aside0.mk (below_step HB3.out hb)
  have Ra_4 := Aside0.mk (Ra_3.out.below hb)
  have Rb_4 := Aside0.mk (Rb_3.out.below hb)
  have Rv_4 := Aside0.mk (Rv_3.out.below hb)
  have Ru_4 := Aside0.mk (Ru_3.out.below hb)
  have Rp_4 := Aside0.mk (Rp_n3.out.below hb)
  clear HB3 Ra_3 Rb_3 Rv_3 Ru_3 Rp_n3
  have Rq_n4 := Aside0.mk hr
  clear ho hb hr
  go_wp2_with fail
  refine (Same_below _ _ _ _ _ _ _ Rp_4.out Rq_n4.out).mono ?_
  rintro e w5 ⟨rfl, hb⟩
  rw [eqB_refl]
  have HB5 := Aside0.mk (below_step HB4.out hb)
  have Ra_5 := Aside0.mk (Ra_4.out.below hb)
  have Rb_5 := Aside0.mk (Rb_4.out.below hb)
  have Rv_5 := Aside0.mk (Rv_4.out.below hb)
  have Ru_5 := Aside0.mk (Ru_4.out.below hb)
  have Rp_5 := Aside0.mk (Rp_4.out.below hb)
  have Rq_5 := Aside0.mk (Rq_n4.out.below hb)
  clear HB4 Ra_4 Rb_4 Rv_4 Ru_4 Rp_4 Rq_n4
  clear hb
  go_wp2_with fail
  clear Rp_5
  clear Rq_5
  refine (vecSlice_calls a _ _ _ h l Rv_5.out h_v_1).mono ?_
  rintro e w6 ⟨v, rfl, ho, hb⟩
  obtain ⟨A_p_6, c_p_6, rfl, h_p_6, hr⟩ := ho.reads
  have HB6 := Aside0.mk (below_step HB5.out hb)
  have Ra_6 := Aside0.mk (Ra_5.out.below hb)
  have Rb_6 := Aside0.mk (Rb_5.out.below hb)
  have Rv_6 := Aside0.mk (Rv_5.out.below hb)
  have Ru_6 := Aside0.mk (Ru_5.out.below hb)
  clear HB5 Ra_5 Rb_5 Rv_5 Ru_5
  have Rp_n6 := Aside0.mk hr
  clear ho hb hr
  go_wp2_with fail
  refine (refSlice_calls a _ _ _ h l Ra_6.out hca).mono ?_
  rintro e w7 ⟨v, rfl, ho, hb⟩
  obtain ⟨A_q_7, c_q_7, rfl, h_q_7, hr⟩ := ho.reads
  have HB7 := Aside0.mk (below_step HB6.out hb)
  have Ra_7 := Aside0.mk (Ra_6.out.below hb)
  have Rb_7 := Aside0.mk (Rb_6.out.below hb)
  have Rv_7 := Aside0.mk (Rv_6.out.below hb)
  have Ru_7 := Aside0.mk (Ru_6.out.below hb)
  have Rp_7 := Aside0.mk (Rp_n6.out.below hb)
  clear HB6 Ra_6 Rb_6 Rv_6 Ru_6 Rp_n6
  have Rq_n7 := Aside0.mk hr
  clear ho hb hr
  go_wp2_with fail
  refine (Same_below _ _ _ _ _ _ _ Rp_7.out Rq_n7.out).mono ?_
  rintro e w8 ⟨rfl, hb⟩
  rw [eqB_refl]
  have HB8 := Aside0.mk (below_step HB7.out hb)
  have Ra_8 := Aside0.mk (Ra_7.out.below hb)
  have Rb_8 := Aside0.mk (Rb_7.out.below hb)
  have Rv_8 := Aside0.mk (Rv_7.out.below hb)
  have Ru_8 := Aside0.mk (Ru_7.out.below hb)
  have Rp_8 := Aside0.mk (Rp_7.out.below hb)
  have Rq_8 := Aside0.mk (Rq_n7.out.below hb)
  clear HB7 Ra_7 Rb_7 Rv_7 Ru_7 Rp_7 Rq_n7
  clear hb
  go_wp2_with fail
  clear Rp_8
  clear Rq_8
  refine (vecPut_calls a b _ _ _ _ h l _ Rv_8.out Ru_8.out).mono ?_
  rintro e w9 ⟨v, rfl, ho, hb⟩
  obtain ⟨A_p_9, c_p_9, rfl, h_p_9, hr⟩ := ho.reads
  have HB9 := Aside0.mk (below_step HB8.out hb)
  have Ra_9 := Aside0.mk (Ra_8.out.below hb)
  have Rb_9 := Aside0.mk (Rb_8.out.below hb)
  have Rv_9 := Aside0.mk (Rv_8.out.below hb)
  have Ru_9 := Aside0.mk (Ru_8.out.below hb)
  clear HB8 Ra_8 Rb_8 Rv_8 Ru_8
  have Rp_n9 := Aside0.mk hr
  clear ho hb hr
  go_wp2_with fail
  refine (refPut_calls a b _ _ _ _ h l _ Ra_9.out Rb_9.out hca).mono ?_
  rintro e w10 ⟨v, rfl, ho, hb⟩
  obtain ⟨A_q_10, c_q_10, rfl, h_q_10, hr⟩ := ho.reads
  have HB10 := Aside0.mk (below_step HB9.out hb)
  have Ra_10 := Aside0.mk (Ra_9.out.below hb)
  have Rb_10 := Aside0.mk (Rb_9.out.below hb)
  have Rv_10 := Aside0.mk (Rv_9.out.below hb)
  have Ru_10 := Aside0.mk (Ru_9.out.below hb)
  have Rp_10 := Aside0.mk (Rp_n9.out.below hb)
  clear HB9 Ra_9 Rb_9 Rv_9 Ru_9 Rp_n9
  have Rq_n10 := Aside0.mk hr
  clear ho hb hr
  go_wp2_with fail
  refine (Same_below _ _ _ _ _ _ _ Rp_10.out Rq_n10.out).mono ?_
  rintro e w11 ⟨rfl, hb⟩
  rw [eqB_refl]
  have HB11 := Aside0.mk (below_step HB10.out hb)
  have Ra_11 := Aside0.mk (Ra_10.out.below hb)
  have Rb_11 := Aside0.mk (Rb_10.out.below hb)
  have Rv_11 := Aside0.mk (Rv_10.out.below hb)
  have Ru_11 := Aside0.mk (Ru_10.out.below hb)
  have Rp_11 := Aside0.mk (Rp_10.out.below hb)
  have Rq_11 := Aside0.mk (Rq_n10.out.below hb)
  clear HB10 Ra_10 Rb_10 Rv_10 Ru_10 Rp_10 Rq_n10
  clear hb
  go_wp2_with fail
  clear Rp_11
  clear Rq_11
  refine (Same_below a a _ _ _ _ _ Ra_11.out Rv_11.out).mono ?_
  rintro e w12 ⟨rfl, hb⟩
  rw [eqB_refl]
  have HB12 := Aside0.mk (below_step HB11.out hb)
  have Ra_12 := Aside0.mk (Ra_11.out.below hb)
  have Rb_12 := Aside0.mk (Rb_11.out.below hb)
  have Rv_12 := Aside0.mk (Rv_11.out.below hb)
  have Ru_12 := Aside0.mk (Ru_11.out.below hb)
  clear HB11 Ra_11 Rb_11 Rv_11 Ru_11
  clear hb
  go_wp2_with fail
  refine (Same_below b b _ _ _ _ _ Rb_12.out Ru_12.out).mono ?_
  rintro e w13 ⟨rfl, hb⟩
  rw [eqB_refl]
  have HB13 := Aside0.mk (below_step HB12.out hb)
  have Ra_13 := Aside0.mk (Ra_12.out.below hb)
  have Rb_13 := Aside0.mk (Rb_12.out.below hb)
  have Rv_13 := Aside0.mk (Rv_12.out.below hb)
  have Ru_13 := Aside0.mk (Ru_12.out.below hb)
  clear HB12 Ra_12 Rb_12 Rv_12 Ru_12
  clear hb
  go_wp2_with fail
  refine (awake_calls _).mono ?_
  rintro e w14 ⟨rfl, hb⟩
  have HBz := Aside0.mk (below_step HB13.out hb)
  clear hb
  go_wp2_with fail
  go_ret
  exact ⟨rfl, HBz.out⟩
theorem vecPieces_walk (w : World) (a : List Int) (A : Option Addr) (ca : Nat) (ra : Rd w A a) (hca : a.length ≤ ca) (b : List Int) (B : Option Addr) (cb : Nat) (rb : Rd w B b) (hcb : b.length ≤ cb) (h l : Int) :
    Calls Try.prog 13 #[.slice A a.length ca, .slice B b.length cb, .agg #[.int .i64 h, .int .i64 l]] w fun e w' => e = .returned (.bool true) ∧ Below w.heap.size w w' := by
  cases k : longB a.length || longB b.length
  · exact pieces_ok w a A ca ra hca b B cb rb hcb h l k
  · exact pieces_long w a A ca ra hca b B cb rb hcb h l k
end Go.Proofs.Ytaffdpgacggllaa.V
