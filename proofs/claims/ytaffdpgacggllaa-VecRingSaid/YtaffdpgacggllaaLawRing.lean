/- The walk of the statement VecRing. -/
import Derived.Test.YtaffdpgacggllaaVr
namespace Go.Proofs.Ytaffdpgacggllaa.V
open Go.RowKit Go.Proofs.YtaffdpgacggllaaW.PrintWords Go.Proofs.YtaffdpgacggllaaW.PrintLast Go.Proofs.YtaffdpgacggllaaW.PrintMore
attribute [local go_sem] max2_int min2_int max_two min_two
set_option linter.unusedVariables false
set_option linter.unusedSimpArgs false

set_option maxRecDepth 100000 in
set_option maxHeartbeats 8000000 in
theorem ring_bad1 (w : World) (a : List Int) (A : Option Addr) (ca : Nat) (ra : Rd w A a) (b : List Int) (B : Option Addr) (cb : Nat) (rb : Rd w B b) (c : List Int) (C : Option Addr) (cc : Nat) (rc : Rd w C c) (ha : isV a = false) :
    Calls Try.prog 5 #[.slice A a.length ca, .slice B b.length cb, .slice C c.length cc] w fun e w' => e = .returned (.bool true) ∧ Below w.heap.size w w' := by
  have Ra := Aside0.mk ra
  have Rb := Aside0.mk rb
  have Rc := Aside0.mk rc
  clear ra rb rc
  have H1 := Aside0.mk ha
  clear ha
  have HB0 := Aside0.mk (Below.refl w.heap.size w)
  go_enter Try.func5, Try.ntmps5
  go_wp2_with fail
  refine (refIs_calls _ _ _ _ Ra.out).mono ?_
  rintro e wq ⟨rfl, rfl⟩
  rw [H1.out]
  go_wp2_with fail
  refine (awake_calls _).mono ?_
  rintro e w1 ⟨rfl, hb⟩
  have HBz := Aside0.mk (below_step HB0.out hb)
  clear hb
  go_wp2_with fail
  go_ret
  exact ⟨rfl, HBz.out⟩
set_option maxRecDepth 100000 in
set_option maxHeartbeats 8000000 in
theorem ring_bad2 (w : World) (a : List Int) (A : Option Addr) (ca : Nat) (ra : Rd w A a) (b : List Int) (B : Option Addr) (cb : Nat) (rb : Rd w B b) (c : List Int) (C : Option Addr) (cc : Nat) (rc : Rd w C c) (ha : isV a = true) (hb : isV b = false) :
    Calls Try.prog 5 #[.slice A a.length ca, .slice B b.length cb, .slice C c.length cc] w fun e w' => e = .returned (.bool true) ∧ Below w.heap.size w w' := by
  have Ra := Aside0.mk ra
  have Rb := Aside0.mk rb
  have Rc := Aside0.mk rc
  clear ra rb rc
  have H1 := Aside0.mk ha
  clear ha
  have H2 := Aside0.mk hb
  clear hb
  have HB0 := Aside0.mk (Below.refl w.heap.size w)
  go_enter Try.func5, Try.ntmps5
  go_wp2_with fail
  refine (refIs_calls _ _ _ _ Ra.out).mono ?_
  rintro e wq ⟨rfl, rfl⟩
  rw [H1.out]
  go_wp2_with fail
  refine (refIs_calls _ _ _ _ Rb.out).mono ?_
  rintro e wq ⟨rfl, rfl⟩
  rw [H2.out]
  go_wp2_with fail
  refine (awake_calls _).mono ?_
  rintro e w1 ⟨rfl, hb⟩
  have HBz := Aside0.mk (below_step HB0.out hb)
  clear hb
  go_wp2_with fail
  go_ret
  exact ⟨rfl, HBz.out⟩
set_option maxRecDepth 100000 in
set_option maxHeartbeats 8000000 in
theorem ring_bad3 (w : World) (a : List Int) (A : Option Addr) (ca : Nat) (ra : Rd w A a) (b : List Int) (B : Option Addr) (cb : Nat) (rb : Rd w B b) (c : List Int) (C : Option Addr) (cc : Nat) (rc : Rd w C c) (ha : isV a = true) (hb : isV b = true) (hc : isV c = false) :
    Calls Try.prog 5 #[.slice A a.length ca, .slice B b.length cb, .slice C c.length cc] w fun e w' => e = .returned (.bool true) ∧ Below w.heap.size w w' := by
  have Ra := Aside0.mk ra
  have Rb := Aside0.mk rb
  have Rc := Aside0.mk rc
  clear ra rb rc
  have H1 := Aside0.mk ha
  clear ha
  have H2 := Aside0.mk hb
  clear hb
  have H3 := Aside0.mk hc
  clear hc
  have HB0 := Aside0.mk (Below.refl w.heap.size w)
  go_enter Try.func5, Try.ntmps5
  go_wp2_with fail
  refine (refIs_calls _ _ _ _ Ra.out).mono ?_
  rintro e wq ⟨rfl, rfl⟩
  rw [H1.out]
  go_wp2_with fail
  refine (refIs_calls _ _ _ _ Rb.out).mono ?_
  rintro e wq ⟨rfl, rfl⟩
  rw [H2.out]
  go_wp2_with fail
  refine (refIs_calls _ _ _ _ Rc.out).mono ?_
  rintro e wq ⟨rfl, rfl⟩
  rw [H3.out]
  go_wp2_with fail
  refine (awake_calls _).mono ?_
  rintro e w1 ⟨rfl, hb⟩
  have HBz := Aside0.mk (below_step HB0.out hb)
  clear hb
  go_wp2_with fail
  go_ret
  exact ⟨rfl, HBz.out⟩
set_option maxRecDepth 100000 in
set_option maxHeartbeats 8000000 in
theorem ring_bad4 (w : World) (a : List Int) (A : Option Addr) (ca : Nat) (ra : Rd w A a) (b : List Int) (B : Option Addr) (cb : Nat) (rb : Rd w B b) (c : List Int) (C : Option Addr) (cc : Nat) (rc : Rd w C c) (ha : isV a = true) (hb : isV b = true) (hc : isV c = true) (hl : a.length ≠ b.length) :
    Calls Try.prog 5 #[.slice A a.length ca, .slice B b.length cb, .slice C c.length cc] w fun e w' => e = .returned (.bool true) ∧ Below w.heap.size w w' := by
  have Ra := Aside0.mk ra
  have Rb := Aside0.mk rb
  have Rc := Aside0.mk rc
  clear ra rb rc
  have H1 := Aside0.mk ha
  clear ha
  have H2 := Aside0.mk hb
  clear hb
  have H3 := Aside0.mk hc
  clear hc
  have l1 : ((a.length : Int) != (b.length : Int)) = true := by simp; omega
  clear hl
  have HB0 := Aside0.mk (Below.refl w.heap.size w)
  go_enter Try.func5, Try.ntmps5
  go_wp2_with fail
  refine (refIs_calls _ _ _ _ Ra.out).mono ?_
  rintro e wq ⟨rfl, rfl⟩
  rw [H1.out]
  go_wp2_with fail
  refine (refIs_calls _ _ _ _ Rb.out).mono ?_
  rintro e wq ⟨rfl, rfl⟩
  rw [H2.out]
  go_wp2_with fail
  refine (refIs_calls _ _ _ _ Rc.out).mono ?_
  rintro e wq ⟨rfl, rfl⟩
  rw [H3.out]
  go_wp2_with fail
  refine (awake_calls _).mono ?_
  rintro e w1 ⟨rfl, hb⟩
  have HBz := Aside0.mk (below_step HB0.out hb)
  clear hb
  go_wp2_with fail
  go_ret
  exact ⟨rfl, HBz.out⟩
set_option maxRecDepth 100000 in
set_option maxHeartbeats 8000000 in
theorem ring_bad5 (w : World) (a : List Int) (A : Option Addr) (ca : Nat) (ra : Rd w A a) (b : List Int) (B : Option Addr) (cb : Nat) (rb : Rd w B b) (c : List Int) (C : Option Addr) (cc : Nat) (rc : Rd w C c) (ha : isV a = true) (hb : isV b = true) (hc : isV c = true) (hl : a.length = b.length) (hm : a.length ≠ c.length) :
    Calls Try.prog 5 #[.slice A a.length ca, .slice B b.length cb, .slice C c.length cc] w fun e w' => e = .returned (.bool true) ∧ Below w.heap.size w w' := by
  have Ra := Aside0.mk ra
  have Rb := Aside0.mk rb
  have Rc := Aside0.mk rc
  clear ra rb rc
  have H1 := Aside0.mk ha
  clear ha
  have H2 := Aside0.mk hb
  clear hb
  have H3 := Aside0.mk hc
  clear hc
  have l1 : ((a.length : Int) != (b.length : Int)) = false := by simp; omega
  have l2 : ((a.length : Int) != (c.length : Int)) = true := by simp; omega
  clear hl hm
  have HB0 := Aside0.mk (Below.refl w.heap.size w)
  go_enter Try.func5, Try.ntmps5
  go_wp2_with fail
  refine (refIs_calls _ _ _ _ Ra.out).mono ?_
  rintro e wq ⟨rfl, rfl⟩
  rw [H1.out]
  go_wp2_with fail
  refine (refIs_calls _ _ _ _ Rb.out).mono ?_
  rintro e wq ⟨rfl, rfl⟩
  rw [H2.out]
  go_wp2_with fail
  refine (refIs_calls _ _ _ _ Rc.out).mono ?_
  rintro e wq ⟨rfl, rfl⟩
  rw [H3.out]
  go_wp2_with fail
  refine (awake_calls _).mono ?_
  rintro e w1 ⟨rfl, hb⟩
  have HBz := Aside0.mk (below_step HB0.out hb)
  clear hb
  go_wp2_with fail
  go_ret
  exact ⟨rfl, HBz.out⟩
set_option maxRecDepth 100000 in
set_option maxHeartbeats 8000000 in
theorem ring_ok1 (w : World) (a : List Int) (A : Option Addr) (ca : Nat) (ra : Rd w A a) (b : List Int) (B : Option Addr) (cb : Nat) (rb : Rd w B b) (c : List Int) (C : Option Addr) (cc : Nat) (rc : Rd w C c) (ha : isV a = true) (hb : isV b = true) (hc : isV c = true) (hl : a.length = b.length) (hm : a.length = c.length) (k1 : sureB a = false) :
    Calls Try.prog 5 #[.slice A a.length ca, .slice B b.length cb, .slice C c.length cc] w fun e w' => e = .returned (.bool true) ∧ Below w.heap.size w w' := by
  have hl2 : b.length = c.length := hl ▸ hm
  have va := ha
  have la : a.length = a.length := rfl
  have vb := hb
  have lb : a.length = b.length := hl
  have vc := hc
  have lc : a.length = c.length := hm
  obtain ⟨ab, hab⟩ : ∃ l, l = compV addW a b := ⟨_, rfl⟩
  have pab : pairB a b = true := pairB_intro va vb (la.symm.trans lb)
  have vab : isV ab = true := by rw [hab]; exact compV_isV _ pab
  have lab : a.length = ab.length := by rw [hab, compV_length _ pab]
  have Qab : Aside0 (compV addW a b = ab ∧ compE a b = 0) := ⟨hab.symm, compE_ok pab⟩
  have Pba : pairB b a = true := pairB_intro vb va (lb.symm.trans la)
  have Qba : Aside0 (compV addW b a = ab ∧ compE b a = 0) := ⟨by rw [hab]; exact (ring_add_comm ha hb hl).symm, compE_ok Pba⟩
  obtain ⟨p, hp⟩ : ∃ l, l = compV mulW a b := ⟨_, rfl⟩
  have pp : pairB a b = true := pairB_intro va vb (la.symm.trans lb)
  have vp : isV p = true := by rw [hp]; exact compV_isV _ pp
  have lp : a.length = p.length := by rw [hp, compV_length _ pp]
  have Qp : Aside0 (compV mulW a b = p ∧ compE a b = 0) := ⟨hp.symm, compE_ok pp⟩
  have Ppb : pairB b a = true := pairB_intro vb va (lb.symm.trans la)
  have Qpb : Aside0 (compV mulW b a = p ∧ compE b a = 0) := ⟨by rw [hp]; exact (ring_mul_comm ha hb hl).symm, compE_ok Ppb⟩
  obtain ⟨x, hx⟩ : ∃ l, l = compV addW ab c := ⟨_, rfl⟩
  have px : pairB ab c = true := pairB_intro vab vc (lab.symm.trans lc)
  have vx : isV x = true := by rw [hx]; exact compV_isV _ px
  have lx : a.length = x.length := by rw [hx, compV_length _ px]; exact lab
  have Qx : Aside0 (compV addW ab c = x ∧ compE ab c = 0) := ⟨hx.symm, compE_ok px⟩
  obtain ⟨bc, hbc⟩ : ∃ l, l = compV addW b c := ⟨_, rfl⟩
  have pbc : pairB b c = true := pairB_intro vb vc (lb.symm.trans lc)
  have vbc : isV bc = true := by rw [hbc]; exact compV_isV _ pbc
  have lbc : a.length = bc.length := by rw [hbc, compV_length _ pbc]; exact lb
  have Qbc : Aside0 (compV addW b c = bc ∧ compE b c = 0) := ⟨hbc.symm, compE_ok pbc⟩
  have Px2 : pairB a bc = true := pairB_intro va vbc (la.symm.trans lbc)
  have Qx2 : Aside0 (compV addW a bc = x ∧ compE a bc = 0) := ⟨by rw [hx, hab, hbc]; exact (ring_add_assoc ha hb hc hl hm).symm, compE_ok Px2⟩
  obtain ⟨y, hy⟩ : ∃ l, l = compV mulW p c := ⟨_, rfl⟩
  have py : pairB p c = true := pairB_intro vp vc (lp.symm.trans lc)
  have vy : isV y = true := by rw [hy]; exact compV_isV _ py
  have ly : a.length = y.length := by rw [hy, compV_length _ py]; exact lp
  have Qy : Aside0 (compV mulW p c = y ∧ compE p c = 0) := ⟨hy.symm, compE_ok py⟩
  obtain ⟨m, hmm⟩ : ∃ l, l = compV mulW b c := ⟨_, rfl⟩
  have pm : pairB b c = true := pairB_intro vb vc (lb.symm.trans lc)
  have vm : isV m = true := by rw [hmm]; exact compV_isV _ pm
  have lm : a.length = m.length := by rw [hmm, compV_length _ pm]; exact lb
  have Qm : Aside0 (compV mulW b c = m ∧ compE b c = 0) := ⟨hmm.symm, compE_ok pm⟩
  have Py2 : pairB a m = true := pairB_intro va vm (la.symm.trans lm)
  have Qy2 : Aside0 (compV mulW a m = y ∧ compE a m = 0) := ⟨by rw [hy, hp, hmm]; exact (ring_mul_assoc ha hb hc hl hm).symm, compE_ok Py2⟩
  have Ra := Aside0.mk ra
  have Rb := Aside0.mk rb
  have Rc := Aside0.mk rc
  clear ra rb rc
  have H1 := Aside0.mk ha
  have H2 := Aside0.mk hb
  have H3 := Aside0.mk hc
  have l1 : ((a.length : Int) != (b.length : Int)) = false := by simp; omega
  have l2 : ((a.length : Int) != (c.length : Int)) = false := by simp; omega
  have K1 := Aside0.mk k1
  clear ha hb hc hl hm hl2 va vb vc la lb lc hab pab vab lab hp pp vp lp hx px vx lx hbc pbc vbc lbc hy py vy ly hmm pm vm lm Pba Ppb Px2 Py2 k1
  have HB0 := Aside0.mk (Below.refl w.heap.size w)
  go_enter Try.func5, Try.ntmps5
  go_wp2_with fail
  refine (refIs_calls _ _ _ _ Ra.out).mono ?_
  rintro e wq ⟨rfl, rfl⟩
  rw [H1.out]
  go_wp2_with fail
  refine (refIs_calls _ _ _ _ Rb.out).mono ?_
  rintro e wq ⟨rfl, rfl⟩
  rw [H2.out]
  go_wp2_with fail
  refine (refIs_calls _ _ _ _ Rc.out).mono ?_
  rintro e wq ⟨rfl, rfl⟩
  rw [H3.out]
  go_wp2_with fail
  refine (add_calls a b _ _ _ _ _ Ra.out Rb.out).mono ?_
  rintro e w1 ⟨v, rfl, ho, hb⟩
  rw [Qab.out.1] at ho
  rw [Qab.out.2]
  obtain ⟨A_ab_1, c_ab_1, rfl, h_ab_1, hr⟩ := ho.reads
  have HB1 := Aside0.mk (below_step HB0.out hb)
  have Ra_1 := Aside0.mk (Ra.out.below hb)
  have Rb_1 := Aside0.mk (Rb.out.below hb)
  have Rc_1 := Aside0.mk (Rc.out.below hb)
  clear HB0 Ra Rb Rc
  have Rab_n1 := Aside0.mk hr
  clear ho hb hr
  go_wp2_with fail
  refine (add_calls b a _ _ _ _ _ Rb_1.out Ra_1.out).mono ?_
  rintro e w2 ⟨v, rfl, ho, hb⟩
  rw [Qba.out.1] at ho
  rw [Qba.out.2]
  obtain ⟨A_ab_2, c_ab_2, rfl, h_ab_2, hr⟩ := ho.reads
  have HB2 := Aside0.mk (below_step HB1.out hb)
  have Ra_2 := Aside0.mk (Ra_1.out.below hb)
  have Rb_2 := Aside0.mk (Rb_1.out.below hb)
  have Rc_2 := Aside0.mk (Rc_1.out.below hb)
  have Rab_2 := Aside0.mk (Rab_n1.out.below hb)
  clear HB1 Ra_1 Rb_1 Rc_1 Rab_n1
  have Rab_n2 := Aside0.mk hr
  clear ho hb hr
  go_wp2_with fail
  refine (mul_calls a b _ _ _ _ _ Ra_2.out Rb_2.out).mono ?_
  rintro e w3 ⟨v, rfl, ho, hb⟩
  rw [Qp.out.1] at ho
  rw [Qp.out.2]
  obtain ⟨A_p_3, c_p_3, rfl, h_p_3, hr⟩ := ho.reads
  have HB3 := Aside0.mk (below_step HB2.out hb)
  have Ra_3 := Aside0.mk (Ra_2.out.below hb)
  have Rb_3 := Aside0.mk (Rb_2.out.below hb)
  have Rc_3 := Aside0.mk (Rc_2.out.below hb)
  have Rab_3 := Aside0.mk (Rab_2.out.below hb)
  have Rab_2_3 := Aside0.mk (Rab_n2.out.below hb)
  clear HB2 Ra_2 Rb_2 Rc_2 Rab_2 Rab_n2
  have Rp_n3 := Aside0.mk hr
  clear ho hb hr
  go_wp2_with fail
  refine (mul_calls b a _ _ _ _ _ Rb_3.out Ra_3.out).mono ?_
  rintro e w4 ⟨v, rfl, ho, hb⟩
  rw [Qpb.out.1] at ho
  rw [Qpb.out.2]
  obtain ⟨A_p_4, c_p_4, rfl, h_p_4, hr⟩ := ho.reads
  have HB4 := Aside0.mk (below_step HB3.out hb)
  have Ra_4 := Aside0.mk (Ra_3.out.below hb)
  have Rb_4 := Aside0.mk (Rb_3.out.below hb)
  have Rc_4 := Aside0.mk (Rc_3.out.below hb)
  have Rab_4 := Aside0.mk (Rab_3.out.below hb)
  have Rab_2_4 := Aside0.mk (Rab_2_3.out.below hb)
  have Rp_4 := Aside0.mk (Rp_n3.out.below hb)
  clear HB3 Ra_3 Rb_3 Rc_3 Rab_3 Rab_2_3 Rp_n3
  have Rp_n4 := Aside0.mk hr
  clear ho hb hr
  go_wp2_with fail
  refine (Same_below ab ab _ _ _ _ _ Rab_4.out Rab_2_4.out).mono ?_
  rintro e w5 ⟨rfl, hb⟩
  rw [eqB_refl]
  have HB5 := Aside0.mk (below_step HB4.out hb)
  have Ra_5 := Aside0.mk (Ra_4.out.below hb)
  have Rb_5 := Aside0.mk (Rb_4.out.below hb)
  have Rc_5 := Aside0.mk (Rc_4.out.below hb)
  have Rab_5 := Aside0.mk (Rab_4.out.below hb)
  have Rab_2_5 := Aside0.mk (Rab_2_4.out.below hb)
  have Rp_5 := Aside0.mk (Rp_4.out.below hb)
  have Rp_4_5 := Aside0.mk (Rp_n4.out.below hb)
  clear HB4 Ra_4 Rb_4 Rc_4 Rab_4 Rab_2_4 Rp_4 Rp_n4
  clear hb
  go_wp2_with fail
  refine (Same_below p p _ _ _ _ _ Rp_5.out Rp_4_5.out).mono ?_
  rintro e w6 ⟨rfl, hb⟩
  rw [eqB_refl]
  have HB6 := Aside0.mk (below_step HB5.out hb)
  have Ra_6 := Aside0.mk (Ra_5.out.below hb)
  have Rb_6 := Aside0.mk (Rb_5.out.below hb)
  have Rc_6 := Aside0.mk (Rc_5.out.below hb)
  have Rab_6 := Aside0.mk (Rab_5.out.below hb)
  have Rab_2_6 := Aside0.mk (Rab_2_5.out.below hb)
  have Rp_6 := Aside0.mk (Rp_5.out.below hb)
  have Rp_4_6 := Aside0.mk (Rp_4_5.out.below hb)
  clear HB5 Ra_5 Rb_5 Rc_5 Rab_5 Rab_2_5 Rp_5 Rp_4_5
  clear hb
  go_wp2_with fail
  clear Rab_2_6
  clear Rp_4_6
  refine (add_calls ab c _ _ _ _ _ Rab_6.out Rc_6.out).mono ?_
  rintro e w7 ⟨v, rfl, ho, hb⟩
  rw [Qx.out.1] at ho
  rw [Qx.out.2]
  obtain ⟨A_x_7, c_x_7, rfl, h_x_7, hr⟩ := ho.reads
  have HB7 := Aside0.mk (below_step HB6.out hb)
  have Ra_7 := Aside0.mk (Ra_6.out.below hb)
  have Rb_7 := Aside0.mk (Rb_6.out.below hb)
  have Rc_7 := Aside0.mk (Rc_6.out.below hb)
  have Rab_7 := Aside0.mk (Rab_6.out.below hb)
  have Rp_7 := Aside0.mk (Rp_6.out.below hb)
  clear HB6 Ra_6 Rb_6 Rc_6 Rab_6 Rp_6
  have Rx_n7 := Aside0.mk hr
  clear ho hb hr
  go_wp2_with fail
  refine (add_calls b c _ _ _ _ _ Rb_7.out Rc_7.out).mono ?_
  rintro e w8 ⟨v, rfl, ho, hb⟩
  rw [Qbc.out.1] at ho
  rw [Qbc.out.2]
  obtain ⟨A_bc_8, c_bc_8, rfl, h_bc_8, hr⟩ := ho.reads
  have HB8 := Aside0.mk (below_step HB7.out hb)
  have Ra_8 := Aside0.mk (Ra_7.out.below hb)
  have Rb_8 := Aside0.mk (Rb_7.out.below hb)
  have Rc_8 := Aside0.mk (Rc_7.out.below hb)
  have Rab_8 := Aside0.mk (Rab_7.out.below hb)
  have Rp_8 := Aside0.mk (Rp_7.out.below hb)
  have Rx_8 := Aside0.mk (Rx_n7.out.below hb)
  clear HB7 Ra_7 Rb_7 Rc_7 Rab_7 Rp_7 Rx_n7
  have Rbc_n8 := Aside0.mk hr
  clear ho hb hr
  go_wp2_with fail
  refine (add_calls a bc _ _ _ _ _ Ra_8.out Rbc_n8.out).mono ?_
  rintro e w9 ⟨v, rfl, ho, hb⟩
  rw [Qx2.out.1] at ho
  rw [Qx2.out.2]
  obtain ⟨A_x_9, c_x_9, rfl, h_x_9, hr⟩ := ho.reads
  have HB9 := Aside0.mk (below_step HB8.out hb)
  have Ra_9 := Aside0.mk (Ra_8.out.below hb)
  have Rb_9 := Aside0.mk (Rb_8.out.below hb)
  have Rc_9 := Aside0.mk (Rc_8.out.below hb)
  have Rab_9 := Aside0.mk (Rab_8.out.below hb)
  have Rp_9 := Aside0.mk (Rp_8.out.below hb)
  have Rx_9 := Aside0.mk (Rx_8.out.below hb)
  have Rbc_9 := Aside0.mk (Rbc_n8.out.below hb)
  clear HB8 Ra_8 Rb_8 Rc_8 Rab_8 Rp_8 Rx_8 Rbc_n8
  have Rx_n9 := Aside0.mk hr
  clear ho hb hr
  go_wp2_with fail
  refine (Same_below x x _ _ _ _ _ Rx_9.out Rx_n9.out).mono ?_
  rintro e w10 ⟨rfl, hb⟩
  rw [eqB_refl]
  have HB10 := Aside0.mk (below_step HB9.out hb)
  have Ra_10 := Aside0.mk (Ra_9.out.below hb)
  have Rb_10 := Aside0.mk (Rb_9.out.below hb)
  have Rc_10 := Aside0.mk (Rc_9.out.below hb)
  have Rab_10 := Aside0.mk (Rab_9.out.below hb)
  have Rp_10 := Aside0.mk (Rp_9.out.below hb)
  have Rx_10 := Aside0.mk (Rx_9.out.below hb)
  have Rbc_10 := Aside0.mk (Rbc_9.out.below hb)
  have Rx_9_10 := Aside0.mk (Rx_n9.out.below hb)
  clear HB9 Ra_9 Rb_9 Rc_9 Rab_9 Rp_9 Rx_9 Rbc_9 Rx_n9
  clear hb
  go_wp2_with fail
  clear Rx_10
  clear Rx_9_10
  refine (mul_calls p c _ _ _ _ _ Rp_10.out Rc_10.out).mono ?_
  rintro e w11 ⟨v, rfl, ho, hb⟩
  rw [Qy.out.1] at ho
  rw [Qy.out.2]
  obtain ⟨A_y_11, c_y_11, rfl, h_y_11, hr⟩ := ho.reads
  have HB11 := Aside0.mk (below_step HB10.out hb)
  have Ra_11 := Aside0.mk (Ra_10.out.below hb)
  have Rb_11 := Aside0.mk (Rb_10.out.below hb)
  have Rc_11 := Aside0.mk (Rc_10.out.below hb)
  have Rab_11 := Aside0.mk (Rab_10.out.below hb)
  have Rp_11 := Aside0.mk (Rp_10.out.below hb)
  have Rbc_11 := Aside0.mk (Rbc_10.out.below hb)
  clear HB10 Ra_10 Rb_10 Rc_10 Rab_10 Rp_10 Rbc_10
  have Ry_n11 := Aside0.mk hr
  clear ho hb hr
  go_wp2_with fail
  refine (mul_calls b c _ _ _ _ _ Rb_11.out Rc_11.out).mono ?_
  rintro e w12 ⟨v, rfl, ho, hb⟩
  rw [Qm.out.1] at ho
  rw [Qm.out.2]
  obtain ⟨A_m_12, c_m_12, rfl, h_m_12, hr⟩ := ho.reads
  have HB12 := Aside0.mk (below_step HB11.out hb)
  have Ra_12 := Aside0.mk (Ra_11.out.below hb)
  have Rb_12 := Aside0.mk (Rb_11.out.below hb)
  have Rc_12 := Aside0.mk (Rc_11.out.below hb)
  have Rab_12 := Aside0.mk (Rab_11.out.below hb)
  have Rp_12 := Aside0.mk (Rp_11.out.below hb)
  have Rbc_12 := Aside0.mk (Rbc_11.out.below hb)
  have Ry_12 := Aside0.mk (Ry_n11.out.below hb)
  clear HB11 Ra_11 Rb_11 Rc_11 Rab_11 Rp_11 Rbc_11 Ry_n11
  have Rm_n12 := Aside0.mk hr
  clear ho hb hr
  go_wp2_with fail
  refine (mul_calls a m _ _ _ _ _ Ra_12.out Rm_n12.out).mono ?_
  rintro e w13 ⟨v, rfl, ho, hb⟩
  rw [Qy2.out.1] at ho
  rw [Qy2.out.2]
  obtain ⟨A_y_13, c_y_13, rfl, h_y_13, hr⟩ := ho.reads
  have HB13 := Aside0.mk (below_step HB12.out hb)
  have Ra_13 := Aside0.mk (Ra_12.out.below hb)
  have Rb_13 := Aside0.mk (Rb_12.out.below hb)
  have Rc_13 := Aside0.mk (Rc_12.out.below hb)
  have Rab_13 := Aside0.mk (Rab_12.out.below hb)
  have Rp_13 := Aside0.mk (Rp_12.out.below hb)
  have Rbc_13 := Aside0.mk (Rbc_12.out.below hb)
  have Ry_13 := Aside0.mk (Ry_12.out.below hb)
  have Rm_13 := Aside0.mk (Rm_n12.out.below hb)
  clear HB12 Ra_12 Rb_12 Rc_12 Rab_12 Rp_12 Rbc_12 Ry_12 Rm_n12
  have Ry_n13 := Aside0.mk hr
  clear ho hb hr
  go_wp2_with fail
  refine (Same_below y y _ _ _ _ _ Ry_13.out Ry_n13.out).mono ?_
  rintro e w14 ⟨rfl, hb⟩
  rw [eqB_refl]
  have HB14 := Aside0.mk (below_step HB13.out hb)
  have Ra_14 := Aside0.mk (Ra_13.out.below hb)
  have Rb_14 := Aside0.mk (Rb_13.out.below hb)
  have Rc_14 := Aside0.mk (Rc_13.out.below hb)
  have Rab_14 := Aside0.mk (Rab_13.out.below hb)
  have Rp_14 := Aside0.mk (Rp_13.out.below hb)
  have Rbc_14 := Aside0.mk (Rbc_13.out.below hb)
  have Ry_14 := Aside0.mk (Ry_13.out.below hb)
  have Rm_14 := Aside0.mk (Rm_13.out.below hb)
  have Ry_13_14 := Aside0.mk (Ry_n13.out.below hb)
  clear HB13 Ra_13 Rb_13 Rc_13 Rab_13 Rp_13 Rbc_13 Ry_13 Rm_13 Ry_n13
  clear hb
  go_wp2_with fail
  clear Ry_14
  clear Ry_13_14
  clear Rm_14
  refine (sure_calls _ _ _ _ Ra_14.out).mono ?_
  rintro e wq ⟨rfl, rfl⟩
  rw [K1.out]
  go_wp2_with fail
  refine (awake_calls _).mono ?_
  rintro e w15 ⟨rfl, hb⟩
  have HBz := Aside0.mk (below_step HB14.out hb)
  clear hb
  go_wp2_with fail
  go_ret
  exact ⟨rfl, HBz.out⟩
set_option maxRecDepth 100000 in
set_option maxHeartbeats 8000000 in
theorem ring_ok2 (w : World) (a : List Int) (A : Option Addr) (ca : Nat) (ra : Rd w A a) (b : List Int) (B : Option Addr) (cb : Nat) (rb : Rd w B b) (c : List Int) (C : Option Addr) (cc : Nat) (rc : Rd w C c) (ha : isV a = true) (hb : isV b = true) (hc : isV c = true) (hl : a.length = b.length) (hm : a.length = c.length) (k1 : sureB a = true) (k2 : sureB b = false) :
    Calls Try.prog 5 #[.slice A a.length ca, .slice B b.length cb, .slice C c.length cc] w fun e w' => e = .returned (.bool true) ∧ Below w.heap.size w w' := by
  have hl2 : b.length = c.length := hl ▸ hm
  have va := ha
  have la : a.length = a.length := rfl
  have vb := hb
  have lb : a.length = b.length := hl
  have vc := hc
  have lc : a.length = c.length := hm
  obtain ⟨ab, hab⟩ : ∃ l, l = compV addW a b := ⟨_, rfl⟩
  have pab : pairB a b = true := pairB_intro va vb (la.symm.trans lb)
  have vab : isV ab = true := by rw [hab]; exact compV_isV _ pab
  have lab : a.length = ab.length := by rw [hab, compV_length _ pab]
  have Qab : Aside0 (compV addW a b = ab ∧ compE a b = 0) := ⟨hab.symm, compE_ok pab⟩
  have Pba : pairB b a = true := pairB_intro vb va (lb.symm.trans la)
  have Qba : Aside0 (compV addW b a = ab ∧ compE b a = 0) := ⟨by rw [hab]; exact (ring_add_comm ha hb hl).symm, compE_ok Pba⟩
  obtain ⟨p, hp⟩ : ∃ l, l = compV mulW a b := ⟨_, rfl⟩
  have pp : pairB a b = true := pairB_intro va vb (la.symm.trans lb)
  have vp : isV p = true := by rw [hp]; exact compV_isV _ pp
  have lp : a.length = p.length := by rw [hp, compV_length _ pp]
  have Qp : Aside0 (compV mulW a b = p ∧ compE a b = 0) := ⟨hp.symm, compE_ok pp⟩
  have Ppb : pairB b a = true := pairB_intro vb va (lb.symm.trans la)
  have Qpb : Aside0 (compV mulW b a = p ∧ compE b a = 0) := ⟨by rw [hp]; exact (ring_mul_comm ha hb hl).symm, compE_ok Ppb⟩
  obtain ⟨x, hx⟩ : ∃ l, l = compV addW ab c := ⟨_, rfl⟩
  have px : pairB ab c = true := pairB_intro vab vc (lab.symm.trans lc)
  have vx : isV x = true := by rw [hx]; exact compV_isV _ px
  have lx : a.length = x.length := by rw [hx, compV_length _ px]; exact lab
  have Qx : Aside0 (compV addW ab c = x ∧ compE ab c = 0) := ⟨hx.symm, compE_ok px⟩
  obtain ⟨bc, hbc⟩ : ∃ l, l = compV addW b c := ⟨_, rfl⟩
  have pbc : pairB b c = true := pairB_intro vb vc (lb.symm.trans lc)
  have vbc : isV bc = true := by rw [hbc]; exact compV_isV _ pbc
  have lbc : a.length = bc.length := by rw [hbc, compV_length _ pbc]; exact lb
  have Qbc : Aside0 (compV addW b c = bc ∧ compE b c = 0) := ⟨hbc.symm, compE_ok pbc⟩
  have Px2 : pairB a bc = true := pairB_intro va vbc (la.symm.trans lbc)
  have Qx2 : Aside0 (compV addW a bc = x ∧ compE a bc = 0) := ⟨by rw [hx, hab, hbc]; exact (ring_add_assoc ha hb hc hl hm).symm, compE_ok Px2⟩
  obtain ⟨y, hy⟩ : ∃ l, l = compV mulW p c := ⟨_, rfl⟩
  have py : pairB p c = true := pairB_intro vp vc (lp.symm.trans lc)
  have vy : isV y = true := by rw [hy]; exact compV_isV _ py
  have ly : a.length = y.length := by rw [hy, compV_length _ py]; exact lp
  have Qy : Aside0 (compV mulW p c = y ∧ compE p c = 0) := ⟨hy.symm, compE_ok py⟩
  obtain ⟨m, hmm⟩ : ∃ l, l = compV mulW b c := ⟨_, rfl⟩
  have pm : pairB b c = true := pairB_intro vb vc (lb.symm.trans lc)
  have vm : isV m = true := by rw [hmm]; exact compV_isV _ pm
  have lm : a.length = m.length := by rw [hmm, compV_length _ pm]; exact lb
  have Qm : Aside0 (compV mulW b c = m ∧ compE b c = 0) := ⟨hmm.symm, compE_ok pm⟩
  have Py2 : pairB a m = true := pairB_intro va vm (la.symm.trans lm)
  have Qy2 : Aside0 (compV mulW a m = y ∧ compE a m = 0) := ⟨by rw [hy, hp, hmm]; exact (ring_mul_assoc ha hb hc hl hm).symm, compE_ok Py2⟩
  have Ra := Aside0.mk ra
  have Rb := Aside0.mk rb
  have Rc := Aside0.mk rc
  clear ra rb rc
  have H1 := Aside0.mk ha
  have H2 := Aside0.mk hb
  have H3 := Aside0.mk hc
  have l1 : ((a.length : Int) != (b.length : Int)) = false := by simp; omega
  have l2 : ((a.length : Int) != (c.length : Int)) = false := by simp; omega
  have K1 := Aside0.mk k1
  have K2 := Aside0.mk k2
  clear ha hb hc hl hm hl2 va vb vc la lb lc hab pab vab lab hp pp vp lp hx px vx lx hbc pbc vbc lbc hy py vy ly hmm pm vm lm Pba Ppb Px2 Py2 k1 k2
  have HB0 := Aside0.mk (Below.refl w.heap.size w)
  go_enter Try.func5, Try.ntmps5
  go_wp2_with fail
  refine (refIs_calls _ _ _ _ Ra.out).mono ?_
  rintro e wq ⟨rfl, rfl⟩
  rw [H1.out]
  go_wp2_with fail
  refine (refIs_calls _ _ _ _ Rb.out).mono ?_
  rintro e wq ⟨rfl, rfl⟩
  rw [H2.out]
  go_wp2_with fail
  refine (refIs_calls _ _ _ _ Rc.out).mono ?_
  rintro e wq ⟨rfl, rfl⟩
  rw [H3.out]
  go_wp2_with fail
  refine (add_calls a b _ _ _ _ _ Ra.out Rb.out).mono ?_
  rintro e w1 ⟨v, rfl, ho, hb⟩
  rw [Qab.out.1] at ho
  rw [Qab.out.2]
  obtain ⟨A_ab_1, c_ab_1, rfl, h_ab_1, hr⟩ := ho.reads
  have HB1 := Aside0.mk (below_step HB0.out hb)
  have Ra_1 := Aside0.mk (Ra.out.below hb)
  have Rb_1 := Aside0.mk (Rb.out.below hb)
  have Rc_1 := Aside0.mk (Rc.out.below hb)
  clear HB0 Ra Rb Rc
  have Rab_n1 := Aside0.mk hr
  clear ho hb hr
  go_wp2_with fail
  refine (add_calls b a _ _ _ _ _ Rb_1.out Ra_1.out).mono ?_
  rintro e w2 ⟨v, rfl, ho, hb⟩
  rw [Qba.out.1] at ho
  rw [Qba.out.2]
  obtain ⟨A_ab_2, c_ab_2, rfl, h_ab_2, hr⟩ := ho.reads
  have HB2 := Aside0.mk (below_step HB1.out hb)
  have Ra_2 := Aside0.mk (Ra_1.out.below hb)
  have Rb_2 := Aside0.mk (Rb_1.out.below hb)
  have Rc_2 := Aside0.mk (Rc_1.out.below hb)
  have Rab_2 := Aside0.mk (Rab_n1.out.below hb)
  clear HB1 Ra_1 Rb_1 Rc_1 Rab_n1
  have Rab_n2 := Aside0.mk hr
  clear ho hb hr
  go_wp2_with fail
  refine (mul_calls a b _ _ _ _ _ Ra_2.out Rb_2.out).mono ?_
  rintro e w3 ⟨v, rfl, ho, hb⟩
  rw [Qp.out.1] at ho
  rw [Qp.out.2]
  obtain ⟨A_p_3, c_p_3, rfl, h_p_3, hr⟩ := ho.reads
  have HB3 := Aside0.mk (below_step HB2.out hb)
  have Ra_3 := Aside0.mk (Ra_2.out.below hb)
  have Rb_3 := Aside0.mk (Rb_2.out.below hb)
  have Rc_3 := Aside0.mk (Rc_2.out.below hb)
  have Rab_3 := Aside0.mk (Rab_2.out.below hb)
  have Rab_2_3 := Aside0.mk (Rab_n2.out.below hb)
  clear HB2 Ra_2 Rb_2 Rc_2 Rab_2 Rab_n2
  have Rp_n3 := Aside0.mk hr
  clear ho hb hr
  go_wp2_with fail
  refine (mul_calls b a _ _ _ _ _ Rb_3.out Ra_3.out).mono ?_
  rintro e w4 ⟨v, rfl, ho, hb⟩
  rw [Qpb.out.1] at ho
  rw [Qpb.out.2]
  obtain ⟨A_p_4, c_p_4, rfl, h_p_4, hr⟩ := ho.reads
  have HB4 := Aside0.mk (below_step HB3.out hb)
  have Ra_4 := Aside0.mk (Ra_3.out.below hb)
  have Rb_4 := Aside0.mk (Rb_3.out.below hb)
  have Rc_4 := Aside0.mk (Rc_3.out.below hb)
  have Rab_4 := Aside0.mk (Rab_3.out.below hb)
  have Rab_2_4 := Aside0.mk (Rab_2_3.out.below hb)
  have Rp_4 := Aside0.mk (Rp_n3.out.below hb)
  clear HB3 Ra_3 Rb_3 Rc_3 Rab_3 Rab_2_3 Rp_n3
  have Rp_n4 := Aside0.mk hr
  clear ho hb hr
  go_wp2_with fail
  refine (Same_below ab ab _ _ _ _ _ Rab_4.out Rab_2_4.out).mono ?_
  rintro e w5 ⟨rfl, hb⟩
  rw [eqB_refl]
  have HB5 := Aside0.mk (below_step HB4.out hb)
  have Ra_5 := Aside0.mk (Ra_4.out.below hb)
  have Rb_5 := Aside0.mk (Rb_4.out.below hb)
  have Rc_5 := Aside0.mk (Rc_4.out.below hb)
  have Rab_5 := Aside0.mk (Rab_4.out.below hb)
  have Rab_2_5 := Aside0.mk (Rab_2_4.out.below hb)
  have Rp_5 := Aside0.mk (Rp_4.out.below hb)
  have Rp_4_5 := Aside0.mk (Rp_n4.out.below hb)
  clear HB4 Ra_4 Rb_4 Rc_4 Rab_4 Rab_2_4 Rp_4 Rp_n4
  clear hb
  go_wp2_with fail
  refine (Same_below p p _ _ _ _ _ Rp_5.out Rp_4_5.out).mono ?_
  rintro e w6 ⟨rfl, hb⟩
  rw [eqB_refl]
  have HB6 := Aside0.mk (below_step HB5.out hb)
  have Ra_6 := Aside0.mk (Ra_5.out.below hb)
  have Rb_6 := Aside0.mk (Rb_5.out.below hb)
  have Rc_6 := Aside0.mk (Rc_5.out.below hb)
  have Rab_6 := Aside0.mk (Rab_5.out.below hb)
  have Rab_2_6 := Aside0.mk (Rab_2_5.out.below hb)
  have Rp_6 := Aside0.mk (Rp_5.out.below hb)
  have Rp_4_6 := Aside0.mk (Rp_4_5.out.below hb)
  clear HB5 Ra_5 Rb_5 Rc_5 Rab_5 Rab_2_5 Rp_5 Rp_4_5
  clear hb
  go_wp2_with fail
  clear Rab_2_6
  clear Rp_4_6
  refine (add_calls ab c _ _ _ _ _ Rab_6.out Rc_6.out).mono ?_
  rintro e w7 ⟨v, rfl, ho, hb⟩
  rw [Qx.out.1] at ho
  rw [Qx.out.2]
  obtain ⟨A_x_7, c_x_7, rfl, h_x_7, hr⟩ := ho.reads
  have HB7 := Aside0.mk (below_step HB6.out hb)
  have Ra_7 := Aside0.mk (Ra_6.out.below hb)
  have Rb_7 := Aside0.mk (Rb_6.out.below hb)
  have Rc_7 := Aside0.mk (Rc_6.out.below hb)
  have Rab_7 := Aside0.mk (Rab_6.out.below hb)
  have Rp_7 := Aside0.mk (Rp_6.out.below hb)
  clear HB6 Ra_6 Rb_6 Rc_6 Rab_6 Rp_6
  have Rx_n7 := Aside0.mk hr
  clear ho hb hr
  go_wp2_with fail
  refine (add_calls b c _ _ _ _ _ Rb_7.out Rc_7.out).mono ?_
  rintro e w8 ⟨v, rfl, ho, hb⟩
  rw [Qbc.out.1] at ho
  rw [Qbc.out.2]
  obtain ⟨A_bc_8, c_bc_8, rfl, h_bc_8, hr⟩ := ho.reads
  have HB8 := Aside0.mk (below_step HB7.out hb)
  have Ra_8 := Aside0.mk (Ra_7.out.below hb)
  have Rb_8 := Aside0.mk (Rb_7.out.below hb)
  have Rc_8 := Aside0.mk (Rc_7.out.below hb)
  have Rab_8 := Aside0.mk (Rab_7.out.below hb)
  have Rp_8 := Aside0.mk (Rp_7.out.below hb)
  have Rx_8 := Aside0.mk (Rx_n7.out.below hb)
  clear HB7 Ra_7 Rb_7 Rc_7 Rab_7 Rp_7 Rx_n7
  have Rbc_n8 := Aside0.mk hr
  clear ho hb hr
  go_wp2_with fail
  refine (add_calls a bc _ _ _ _ _ Ra_8.out Rbc_n8.out).mono ?_
  rintro e w9 ⟨v, rfl, ho, hb⟩
  rw [Qx2.out.1] at ho
  rw [Qx2.out.2]
  obtain ⟨A_x_9, c_x_9, rfl, h_x_9, hr⟩ := ho.reads
  have HB9 := Aside0.mk (below_step HB8.out hb)
  have Ra_9 := Aside0.mk (Ra_8.out.below hb)
  have Rb_9 := Aside0.mk (Rb_8.out.below hb)
  have Rc_9 := Aside0.mk (Rc_8.out.below hb)
  have Rab_9 := Aside0.mk (Rab_8.out.below hb)
  have Rp_9 := Aside0.mk (Rp_8.out.below hb)
  have Rx_9 := Aside0.mk (Rx_8.out.below hb)
  have Rbc_9 := Aside0.mk (Rbc_n8.out.below hb)
  clear HB8 Ra_8 Rb_8 Rc_8 Rab_8 Rp_8 Rx_8 Rbc_n8
  have Rx_n9 := Aside0.mk hr
  clear ho hb hr
  go_wp2_with fail
  refine (Same_below x x _ _ _ _ _ Rx_9.out Rx_n9.out).mono ?_
  rintro e w10 ⟨rfl, hb⟩
  rw [eqB_refl]
  have HB10 := Aside0.mk (below_step HB9.out hb)
  have Ra_10 := Aside0.mk (Ra_9.out.below hb)
  have Rb_10 := Aside0.mk (Rb_9.out.below hb)
  have Rc_10 := Aside0.mk (Rc_9.out.below hb)
  have Rab_10 := Aside0.mk (Rab_9.out.below hb)
  have Rp_10 := Aside0.mk (Rp_9.out.below hb)
  have Rx_10 := Aside0.mk (Rx_9.out.below hb)
  have Rbc_10 := Aside0.mk (Rbc_9.out.below hb)
  have Rx_9_10 := Aside0.mk (Rx_n9.out.below hb)
  clear HB9 Ra_9 Rb_9 Rc_9 Rab_9 Rp_9 Rx_9 Rbc_9 Rx_n9
  clear hb
  go_wp2_with fail
  clear Rx_10
  clear Rx_9_10
  refine (mul_calls p c _ _ _ _ _ Rp_10.out Rc_10.out).mono ?_
  rintro e w11 ⟨v, rfl, ho, hb⟩
  rw [Qy.out.1] at ho
  rw [Qy.out.2]
  obtain ⟨A_y_11, c_y_11, rfl, h_y_11, hr⟩ := ho.reads
  have HB11 := Aside0.mk (below_step HB10.out hb)
  have Ra_11 := Aside0.mk (Ra_10.out.below hb)
  have Rb_11 := Aside0.mk (Rb_10.out.below hb)
  have Rc_11 := Aside0.mk (Rc_10.out.below hb)
  have Rab_11 := Aside0.mk (Rab_10.out.below hb)
  have Rp_11 := Aside0.mk (Rp_10.out.below hb)
  have Rbc_11 := Aside0.mk (Rbc_10.out.below hb)
  clear HB10 Ra_10 Rb_10 Rc_10 Rab_10 Rp_10 Rbc_10
  have Ry_n11 := Aside0.mk hr
  clear ho hb hr
  go_wp2_with fail
  refine (mul_calls b c _ _ _ _ _ Rb_11.out Rc_11.out).mono ?_
  rintro e w12 ⟨v, rfl, ho, hb⟩
  rw [Qm.out.1] at ho
  rw [Qm.out.2]
  obtain ⟨A_m_12, c_m_12, rfl, h_m_12, hr⟩ := ho.reads
  have HB12 := Aside0.mk (below_step HB11.out hb)
  have Ra_12 := Aside0.mk (Ra_11.out.below hb)
  have Rb_12 := Aside0.mk (Rb_11.out.below hb)
  have Rc_12 := Aside0.mk (Rc_11.out.below hb)
  have Rab_12 := Aside0.mk (Rab_11.out.below hb)
  have Rp_12 := Aside0.mk (Rp_11.out.below hb)
  have Rbc_12 := Aside0.mk (Rbc_11.out.below hb)
  have Ry_12 := Aside0.mk (Ry_n11.out.below hb)
  clear HB11 Ra_11 Rb_11 Rc_11 Rab_11 Rp_11 Rbc_11 Ry_n11
  have Rm_n12 := Aside0.mk hr
  clear ho hb hr
  go_wp2_with fail
  refine (mul_calls a m _ _ _ _ _ Ra_12.out Rm_n12.out).mono ?_
  rintro e w13 ⟨v, rfl, ho, hb⟩
  rw [Qy2.out.1] at ho
  rw [Qy2.out.2]
  obtain ⟨A_y_13, c_y_13, rfl, h_y_13, hr⟩ := ho.reads
  have HB13 := Aside0.mk (below_step HB12.out hb)
  have Ra_13 := Aside0.mk (Ra_12.out.below hb)
  have Rb_13 := Aside0.mk (Rb_12.out.below hb)
  have Rc_13 := Aside0.mk (Rc_12.out.below hb)
  have Rab_13 := Aside0.mk (Rab_12.out.below hb)
  have Rp_13 := Aside0.mk (Rp_12.out.below hb)
  have Rbc_13 := Aside0.mk (Rbc_12.out.below hb)
  have Ry_13 := Aside0.mk (Ry_12.out.below hb)
  have Rm_13 := Aside0.mk (Rm_n12.out.below hb)
  clear HB12 Ra_12 Rb_12 Rc_12 Rab_12 Rp_12 Rbc_12 Ry_12 Rm_n12
  have Ry_n13 := Aside0.mk hr
  clear ho hb hr
  go_wp2_with fail
  refine (Same_below y y _ _ _ _ _ Ry_13.out Ry_n13.out).mono ?_
  rintro e w14 ⟨rfl, hb⟩
  rw [eqB_refl]
  have HB14 := Aside0.mk (below_step HB13.out hb)
  have Ra_14 := Aside0.mk (Ra_13.out.below hb)
  have Rb_14 := Aside0.mk (Rb_13.out.below hb)
  have Rc_14 := Aside0.mk (Rc_13.out.below hb)
  have Rab_14 := Aside0.mk (Rab_13.out.below hb)
  have Rp_14 := Aside0.mk (Rp_13.out.below hb)
  have Rbc_14 := Aside0.mk (Rbc_13.out.below hb)
  have Ry_14 := Aside0.mk (Ry_13.out.below hb)
  have Rm_14 := Aside0.mk (Rm_13.out.below hb)
  have Ry_13_14 := Aside0.mk (Ry_n13.out.below hb)
  clear HB13 Ra_13 Rb_13 Rc_13 Rab_13 Rp_13 Rbc_13 Ry_13 Rm_13 Ry_n13
  clear hb
  go_wp2_with fail
  clear Ry_14
  clear Ry_13_14
  clear Rm_14
  refine (sure_calls _ _ _ _ Ra_14.out).mono ?_
  rintro e wq ⟨rfl, rfl⟩
  rw [K1.out]
  go_wp2_with fail
  refine (sure_calls _ _ _ _ Rb_14.out).mono ?_
  rintro e wq ⟨rfl, rfl⟩
  rw [K2.out]
  go_wp2_with fail
  refine (awake_calls _).mono ?_
  rintro e w15 ⟨rfl, hb⟩
  have HBz := Aside0.mk (below_step HB14.out hb)
  clear hb
  go_wp2_with fail
  go_ret
  exact ⟨rfl, HBz.out⟩
set_option maxRecDepth 100000 in
set_option maxHeartbeats 8000000 in
theorem ring_ok3 (w : World) (a : List Int) (A : Option Addr) (ca : Nat) (ra : Rd w A a) (b : List Int) (B : Option Addr) (cb : Nat) (rb : Rd w B b) (c : List Int) (C : Option Addr) (cc : Nat) (rc : Rd w C c) (ha : isV a = true) (hb : isV b = true) (hc : isV c = true) (hl : a.length = b.length) (hm : a.length = c.length) (k1 : sureB a = true) (k2 : sureB b = true) (k3 : sureB c = false) :
    Calls Try.prog 5 #[.slice A a.length ca, .slice B b.length cb, .slice C c.length cc] w fun e w' => e = .returned (.bool true) ∧ Below w.heap.size w w' := by
  have hl2 : b.length = c.length := hl ▸ hm
  have va := ha
  have la : a.length = a.length := rfl
  have vb := hb
  have lb : a.length = b.length := hl
  have vc := hc
  have lc : a.length = c.length := hm
  obtain ⟨ab, hab⟩ : ∃ l, l = compV addW a b := ⟨_, rfl⟩
  have pab : pairB a b = true := pairB_intro va vb (la.symm.trans lb)
  have vab : isV ab = true := by rw [hab]; exact compV_isV _ pab
  have lab : a.length = ab.length := by rw [hab, compV_length _ pab]
  have Qab : Aside0 (compV addW a b = ab ∧ compE a b = 0) := ⟨hab.symm, compE_ok pab⟩
  have Pba : pairB b a = true := pairB_intro vb va (lb.symm.trans la)
  have Qba : Aside0 (compV addW b a = ab ∧ compE b a = 0) := ⟨by rw [hab]; exact (ring_add_comm ha hb hl).symm, compE_ok Pba⟩
  obtain ⟨p, hp⟩ : ∃ l, l = compV mulW a b := ⟨_, rfl⟩
  have pp : pairB a b = true := pairB_intro va vb (la.symm.trans lb)
  have vp : isV p = true := by rw [hp]; exact compV_isV _ pp
  have lp : a.length = p.length := by rw [hp, compV_length _ pp]
  have Qp : Aside0 (compV mulW a b = p ∧ compE a b = 0) := ⟨hp.symm, compE_ok pp⟩
  have Ppb : pairB b a = true := pairB_intro vb va (lb.symm.trans la)
  have Qpb : Aside0 (compV mulW b a = p ∧ compE b a = 0) := ⟨by rw [hp]; exact (ring_mul_comm ha hb hl).symm, compE_ok Ppb⟩
  obtain ⟨x, hx⟩ : ∃ l, l = compV addW ab c := ⟨_, rfl⟩
  have px : pairB ab c = true := pairB_intro vab vc (lab.symm.trans lc)
  have vx : isV x = true := by rw [hx]; exact compV_isV _ px
  have lx : a.length = x.length := by rw [hx, compV_length _ px]; exact lab
  have Qx : Aside0 (compV addW ab c = x ∧ compE ab c = 0) := ⟨hx.symm, compE_ok px⟩
  obtain ⟨bc, hbc⟩ : ∃ l, l = compV addW b c := ⟨_, rfl⟩
  have pbc : pairB b c = true := pairB_intro vb vc (lb.symm.trans lc)
  have vbc : isV bc = true := by rw [hbc]; exact compV_isV _ pbc
  have lbc : a.length = bc.length := by rw [hbc, compV_length _ pbc]; exact lb
  have Qbc : Aside0 (compV addW b c = bc ∧ compE b c = 0) := ⟨hbc.symm, compE_ok pbc⟩
  have Px2 : pairB a bc = true := pairB_intro va vbc (la.symm.trans lbc)
  have Qx2 : Aside0 (compV addW a bc = x ∧ compE a bc = 0) := ⟨by rw [hx, hab, hbc]; exact (ring_add_assoc ha hb hc hl hm).symm, compE_ok Px2⟩
  obtain ⟨y, hy⟩ : ∃ l, l = compV mulW p c := ⟨_, rfl⟩
  have py : pairB p c = true := pairB_intro vp vc (lp.symm.trans lc)
  have vy : isV y = true := by rw [hy]; exact compV_isV _ py
  have ly : a.length = y.length := by rw [hy, compV_length _ py]; exact lp
  have Qy : Aside0 (compV mulW p c = y ∧ compE p c = 0) := ⟨hy.symm, compE_ok py⟩
  obtain ⟨m, hmm⟩ : ∃ l, l = compV mulW b c := ⟨_, rfl⟩
  have pm : pairB b c = true := pairB_intro vb vc (lb.symm.trans lc)
  have vm : isV m = true := by rw [hmm]; exact compV_isV _ pm
  have lm : a.length = m.length := by rw [hmm, compV_length _ pm]; exact lb
  have Qm : Aside0 (compV mulW b c = m ∧ compE b c = 0) := ⟨hmm.symm, compE_ok pm⟩
  have Py2 : pairB a m = true := pairB_intro va vm (la.symm.trans lm)
  have Qy2 : Aside0 (compV mulW a m = y ∧ compE a m = 0) := ⟨by rw [hy, hp, hmm]; exact (ring_mul_assoc ha hb hc hl hm).symm, compE_ok Py2⟩
  have Ra := Aside0.mk ra
  have Rb := Aside0.mk rb
  have Rc := Aside0.mk rc
  clear ra rb rc
  have H1 := Aside0.mk ha
  have H2 := Aside0.mk hb
  have H3 := Aside0.mk hc
  have l1 : ((a.length : Int) != (b.length : Int)) = false := by simp; omega
  have l2 : ((a.length : Int) != (c.length : Int)) = false := by simp; omega
  have K1 := Aside0.mk k1
  have K2 := Aside0.mk k2
  have K3 := Aside0.mk k3
  clear ha hb hc hl hm hl2 va vb vc la lb lc hab pab vab lab hp pp vp lp hx px vx lx hbc pbc vbc lbc hy py vy ly hmm pm vm lm Pba Ppb Px2 Py2 k1 k2 k3
  have HB0 := Aside0.mk (Below.refl w.heap.size w)
  go_enter Try.func5, Try.ntmps5
  go_wp2_with fail
  refine (refIs_calls _ _ _ _ Ra.out).mono ?_
  rintro e wq ⟨rfl, rfl⟩
  rw [H1.out]
  go_wp2_with fail
  refine (refIs_calls _ _ _ _ Rb.out).mono ?_
  rintro e wq ⟨rfl, rfl⟩
  rw [H2.out]
  go_wp2_with fail
  refine (refIs_calls _ _ _ _ Rc.out).mono ?_
  rintro e wq ⟨rfl, rfl⟩
  rw [H3.out]
  go_wp2_with fail
  refine (add_calls a b _ _ _ _ _ Ra.out Rb.out).mono ?_
  rintro e w1 ⟨v, rfl, ho, hb⟩
  rw [Qab.out.1] at ho
  rw [Qab.out.2]
  obtain ⟨A_ab_1, c_ab_1, rfl, h_ab_1, hr⟩ := ho.reads
  have HB1 := Aside0.mk (below_step HB0.out hb)
  have Ra_1 := Aside0.mk (Ra.out.below hb)
  have Rb_1 := Aside0.mk (Rb.out.below hb)
  have Rc_1 := Aside0.mk (Rc.out.below hb)
  clear HB0 Ra Rb Rc
  have Rab_n1 := Aside0.mk hr
  clear ho hb hr
  go_wp2_with fail
  refine (add_calls b a _ _ _ _ _ Rb_1.out Ra_1.out).mono ?_
  rintro e w2 ⟨v, rfl, ho, hb⟩
  rw [Qba.out.1] at ho
  rw [Qba.out.2]
  obtain ⟨A_ab_2, c_ab_2, rfl, h_ab_2, hr⟩ := ho.reads
  have HB2 := Aside0.mk (below_step HB1.out hb)
  have Ra_2 := Aside0.mk (Ra_1.out.below hb)
  have Rb_2 := Aside0.mk (Rb_1.out.below hb)
  have Rc_2 := Aside0.mk (Rc_1.out.below hb)
  have Rab_2 := Aside0.mk (Rab_n1.out.below hb)
  clear HB1 Ra_1 Rb_1 Rc_1 Rab_n1
  have Rab_n2 := Aside0.mk hr
  clear ho hb hr
  go_wp2_with fail
  refine (mul_calls a b _ _ _ _ _ Ra_2.out Rb_2.out).mono ?_
  rintro e w3 ⟨v, rfl, ho, hb⟩
  rw [Qp.out.1] at ho
  rw [Qp.out.2]
  obtain ⟨A_p_3, c_p_3, rfl, h_p_3, hr⟩ := ho.reads
  have HB3 := Aside0.mk (below_step HB2.out hb)
  have Ra_3 := Aside0.mk (Ra_2.out.below hb)
  have Rb_3 := Aside0.mk (Rb_2.out.below hb)
  have Rc_3 := Aside0.mk (Rc_2.out.below hb)
  have Rab_3 := Aside0.mk (Rab_2.out.below hb)
  have Rab_2_3 := Aside0.mk (Rab_n2.out.below hb)
  clear HB2 Ra_2 Rb_2 Rc_2 Rab_2 Rab_n2
  have Rp_n3 := Aside0.mk hr
  clear ho hb hr
  go_wp2_with fail
  refine (mul_calls b a _ _ _ _ _ Rb_3.out Ra_3.out).mono ?_
  rintro e w4 ⟨v, rfl, ho, hb⟩
  rw [Qpb.out.1] at ho
  rw [Qpb.out.2]
  obtain ⟨A_p_4, c_p_4, rfl, h_p_4, hr⟩ := ho.reads
  have HB4 := Aside0.mk (below_step HB3.out hb)
  have Ra_4 := Aside0.mk (Ra_3.out.below hb)
  have Rb_4 := Aside0.mk (Rb_3.out.below hb)
  have Rc_4 := Aside0.mk (Rc_3.out.below hb)
  have Rab_4 := Aside0.mk (Rab_3.out.below hb)
  have Rab_2_4 := Aside0.mk (Rab_2_3.out.below hb)
  have Rp_4 := Aside0.mk (Rp_n3.out.below hb)
  clear HB3 Ra_3 Rb_3 Rc_3 Rab_3 Rab_2_3 Rp_n3
  have Rp_n4 := Aside0.mk hr
  clear ho hb hr
  go_wp2_with fail
  refine (Same_below ab ab _ _ _ _ _ Rab_4.out Rab_2_4.out).mono ?_
  rintro e w5 ⟨rfl, hb⟩
  rw [eqB_refl]
  have HB5 := Aside0.mk (below_step HB4.out hb)
  have Ra_5 := Aside0.mk (Ra_4.out.below hb)
  have Rb_5 := Aside0.mk (Rb_4.out.below hb)
  have Rc_5 := Aside0.mk (Rc_4.out.below hb)
  have Rab_5 := Aside0.mk (Rab_4.out.below hb)
  have Rab_2_5 := Aside0.mk (Rab_2_4.out.below hb)
  have Rp_5 := Aside0.mk (Rp_4.out.below hb)
  have Rp_4_5 := Aside0.mk (Rp_n4.out.below hb)
  clear HB4 Ra_4 Rb_4 Rc_4 Rab_4 Rab_2_4 Rp_4 Rp_n4
  clear hb
  go_wp2_with fail
  refine (Same_below p p _ _ _ _ _ Rp_5.out Rp_4_5.out).mono ?_
  rintro e w6 ⟨rfl, hb⟩
  rw [eqB_refl]
  have HB6 := Aside0.mk (below_step HB5.out hb)
  have Ra_6 := Aside0.mk (Ra_5.out.below hb)
  have Rb_6 := Aside0.mk (Rb_5.out.below hb)
  have Rc_6 := Aside0.mk (Rc_5.out.below hb)
  have Rab_6 := Aside0.mk (Rab_5.out.below hb)
  have Rab_2_6 := Aside0.mk (Rab_2_5.out.below hb)
  have Rp_6 := Aside0.mk (Rp_5.out.below hb)
  have Rp_4_6 := Aside0.mk (Rp_4_5.out.below hb)
  clear HB5 Ra_5 Rb_5 Rc_5 Rab_5 Rab_2_5 Rp_5 Rp_4_5
  clear hb
  go_wp2_with fail
  clear Rab_2_6
  clear Rp_4_6
  refine (add_calls ab c _ _ _ _ _ Rab_6.out Rc_6.out).mono ?_
  rintro e w7 ⟨v, rfl, ho, hb⟩
  rw [Qx.out.1] at ho
  rw [Qx.out.2]
  obtain ⟨A_x_7, c_x_7, rfl, h_x_7, hr⟩ := ho.reads
  have HB7 := Aside0.mk (below_step HB6.out hb)
  have Ra_7 := Aside0.mk (Ra_6.out.below hb)
  have Rb_7 := Aside0.mk (Rb_6.out.below hb)
  have Rc_7 := Aside0.mk (Rc_6.out.below hb)
  have Rab_7 := Aside0.mk (Rab_6.out.below hb)
  have Rp_7 := Aside0.mk (Rp_6.out.below hb)
  clear HB6 Ra_6 Rb_6 Rc_6 Rab_6 Rp_6
  have Rx_n7 := Aside0.mk hr
  clear ho hb hr
  go_wp2_with fail
  refine (add_calls b c _ _ _ _ _ Rb_7.out Rc_7.out).mono ?_
  rintro e w8 ⟨v, rfl, ho, hb⟩
  rw [Qbc.out.1] at ho
  rw [Qbc.out.2]
  obtain ⟨A_bc_8, c_bc_8, rfl, h_bc_8, hr⟩ := ho.reads
  have HB8 := Aside0.mk (below_step HB7.out hb)
  have Ra_8 := Aside0.mk (Ra_7.out.below hb)
  have Rb_8 := Aside0.mk (Rb_7.out.below hb)
  have Rc_8 := Aside0.mk (Rc_7.out.below hb)
  have Rab_8 := Aside0.mk (Rab_7.out.below hb)
  have Rp_8 := Aside0.mk (Rp_7.out.below hb)
  have Rx_8 := Aside0.mk (Rx_n7.out.below hb)
  clear HB7 Ra_7 Rb_7 Rc_7 Rab_7 Rp_7 Rx_n7
  have Rbc_n8 := Aside0.mk hr
  clear ho hb hr
  go_wp2_with fail
  refine (add_calls a bc _ _ _ _ _ Ra_8.out Rbc_n8.out).mono ?_
  rintro e w9 ⟨v, rfl, ho, hb⟩
  rw [Qx2.out.1] at ho
  rw [Qx2.out.2]
  obtain ⟨A_x_9, c_x_9, rfl, h_x_9, hr⟩ := ho.reads
  have HB9 := Aside0.mk (below_step HB8.out hb)
  have Ra_9 := Aside0.mk (Ra_8.out.below hb)
  have Rb_9 := Aside0.mk (Rb_8.out.below hb)
  have Rc_9 := Aside0.mk (Rc_8.out.below hb)
  have Rab_9 := Aside0.mk (Rab_8.out.below hb)
  have Rp_9 := Aside0.mk (Rp_8.out.below hb)
  have Rx_9 := Aside0.mk (Rx_8.out.below hb)
  have Rbc_9 := Aside0.mk (Rbc_n8.out.below hb)
  clear HB8 Ra_8 Rb_8 Rc_8 Rab_8 Rp_8 Rx_8 Rbc_n8
  have Rx_n9 := Aside0.mk hr
  clear ho hb hr
  go_wp2_with fail
  refine (Same_below x x _ _ _ _ _ Rx_9.out Rx_n9.out).mono ?_
  rintro e w10 ⟨rfl, hb⟩
  rw [eqB_refl]
  have HB10 := Aside0.mk (below_step HB9.out hb)
  have Ra_10 := Aside0.mk (Ra_9.out.below hb)
  have Rb_10 := Aside0.mk (Rb_9.out.below hb)
  have Rc_10 := Aside0.mk (Rc_9.out.below hb)
  have Rab_10 := Aside0.mk (Rab_9.out.below hb)
  have Rp_10 := Aside0.mk (Rp_9.out.below hb)
  have Rx_10 := Aside0.mk (Rx_9.out.below hb)
  have Rbc_10 := Aside0.mk (Rbc_9.out.below hb)
  have Rx_9_10 := Aside0.mk (Rx_n9.out.below hb)
  clear HB9 Ra_9 Rb_9 Rc_9 Rab_9 Rp_9 Rx_9 Rbc_9 Rx_n9
  clear hb
  go_wp2_with fail
  clear Rx_10
  clear Rx_9_10
  refine (mul_calls p c _ _ _ _ _ Rp_10.out Rc_10.out).mono ?_
  rintro e w11 ⟨v, rfl, ho, hb⟩
  rw [Qy.out.1] at ho
  rw [Qy.out.2]
  obtain ⟨A_y_11, c_y_11, rfl, h_y_11, hr⟩ := ho.reads
  have HB11 := Aside0.mk (below_step HB10.out hb)
  have Ra_11 := Aside0.mk (Ra_10.out.below hb)
  have Rb_11 := Aside0.mk (Rb_10.out.below hb)
  have Rc_11 := Aside0.mk (Rc_10.out.below hb)
  have Rab_11 := Aside0.mk (Rab_10.out.below hb)
  have Rp_11 := Aside0.mk (Rp_10.out.below hb)
  have Rbc_11 := Aside0.mk (Rbc_10.out.below hb)
  clear HB10 Ra_10 Rb_10 Rc_10 Rab_10 Rp_10 Rbc_10
  have Ry_n11 := Aside0.mk hr
  clear ho hb hr
  go_wp2_with fail
  refine (mul_calls b c _ _ _ _ _ Rb_11.out Rc_11.out).mono ?_
  rintro e w12 ⟨v, rfl, ho, hb⟩
  rw [Qm.out.1] at ho
  rw [Qm.out.2]
  obtain ⟨A_m_12, c_m_12, rfl, h_m_12, hr⟩ := ho.reads
  have HB12 := Aside0.mk (below_step HB11.out hb)
  have Ra_12 := Aside0.mk (Ra_11.out.below hb)
  have Rb_12 := Aside0.mk (Rb_11.out.below hb)
  have Rc_12 := Aside0.mk (Rc_11.out.below hb)
  have Rab_12 := Aside0.mk (Rab_11.out.below hb)
  have Rp_12 := Aside0.mk (Rp_11.out.below hb)
  have Rbc_12 := Aside0.mk (Rbc_11.out.below hb)
  have Ry_12 := Aside0.mk (Ry_n11.out.below hb)
  clear HB11 Ra_11 Rb_11 Rc_11 Rab_11 Rp_11 Rbc_11 Ry_n11
  have Rm_n12 := Aside0.mk hr
  clear ho hb hr
  go_wp2_with fail
  refine (mul_calls a m _ _ _ _ _ Ra_12.out Rm_n12.out).mono ?_
  rintro e w13 ⟨v, rfl, ho, hb⟩
  rw [Qy2.out.1] at ho
  rw [Qy2.out.2]
  obtain ⟨A_y_13, c_y_13, rfl, h_y_13, hr⟩ := ho.reads
  have HB13 := Aside0.mk (below_step HB12.out hb)
  have Ra_13 := Aside0.mk (Ra_12.out.below hb)
  have Rb_13 := Aside0.mk (Rb_12.out.below hb)
  have Rc_13 := Aside0.mk (Rc_12.out.below hb)
  have Rab_13 := Aside0.mk (Rab_12.out.below hb)
  have Rp_13 := Aside0.mk (Rp_12.out.below hb)
  have Rbc_13 := Aside0.mk (Rbc_12.out.below hb)
  have Ry_13 := Aside0.mk (Ry_12.out.below hb)
  have Rm_13 := Aside0.mk (Rm_n12.out.below hb)
  clear HB12 Ra_12 Rb_12 Rc_12 Rab_12 Rp_12 Rbc_12 Ry_12 Rm_n12
  have Ry_n13 := Aside0.mk hr
  clear ho hb hr
  go_wp2_with fail
  refine (Same_below y y _ _ _ _ _ Ry_13.out Ry_n13.out).mono ?_
  rintro e w14 ⟨rfl, hb⟩
  rw [eqB_refl]
  have HB14 := Aside0.mk (below_step HB13.out hb)
  have Ra_14 := Aside0.mk (Ra_13.out.below hb)
  have Rb_14 := Aside0.mk (Rb_13.out.below hb)
  have Rc_14 := Aside0.mk (Rc_13.out.below hb)
  have Rab_14 := Aside0.mk (Rab_13.out.below hb)
  have Rp_14 := Aside0.mk (Rp_13.out.below hb)
  have Rbc_14 := Aside0.mk (Rbc_13.out.below hb)
  have Ry_14 := Aside0.mk (Ry_13.out.below hb)
  have Rm_14 := Aside0.mk (Rm_13.out.below hb)
  have Ry_13_14 := Aside0.mk (Ry_n13.out.below hb)
  clear HB13 Ra_13 Rb_13 Rc_13 Rab_13 Rp_13 Rbc_13 Ry_13 Rm_13 Ry_n13
  clear hb
  go_wp2_with fail
  clear Ry_14
  clear Ry_13_14
  clear Rm_14
  refine (sure_calls _ _ _ _ Ra_14.out).mono ?_
  rintro e wq ⟨rfl, rfl⟩
  rw [K1.out]
  go_wp2_with fail
  refine (sure_calls _ _ _ _ Rb_14.out).mono ?_
  rintro e wq ⟨rfl, rfl⟩
  rw [K2.out]
  go_wp2_with fail
  refine (sure_calls _ _ _ _ Rc_14.out).mono ?_
  rintro e wq ⟨rfl, rfl⟩
  rw [K3.out]
  go_wp2_with fail
  refine (awake_calls _).mono ?_
  rintro e w15 ⟨rfl, hb⟩
  have HBz := Aside0.mk (below_step HB14.out hb)
  clear hb
  go_wp2_with fail
  go_ret
  exact ⟨rfl, HBz.out⟩
set_option maxRecDepth 100000 in
set_option maxHeartbeats 8000000 in
theorem ring_ok4 (w : World) (a : List Int) (A : Option Addr) (ca : Nat) (ra : Rd w A a) (b : List Int) (B : Option Addr) (cb : Nat) (rb : Rd w B b) (c : List Int) (C : Option Addr) (cc : Nat) (rc : Rd w C c) (ha : isV a = true) (hb : isV b = true) (hc : isV c = true) (hl : a.length = b.length) (hm : a.length = c.length) (k1 : sureB a = true) (k2 : sureB b = true) (k3 : sureB c = true) :
    Calls Try.prog 5 #[.slice A a.length ca, .slice B b.length cb, .slice C c.length cc] w fun e w' => e = .returned (.bool true) ∧ Below w.heap.size w w' := by
  have hl2 : b.length = c.length := hl ▸ hm
  have va := ha
  have la : a.length = a.length := rfl
  have vb := hb
  have lb : a.length = b.length := hl
  have vc := hc
  have lc : a.length = c.length := hm
  obtain ⟨ab, hab⟩ : ∃ l, l = compV addW a b := ⟨_, rfl⟩
  have pab : pairB a b = true := pairB_intro va vb (la.symm.trans lb)
  have vab : isV ab = true := by rw [hab]; exact compV_isV _ pab
  have lab : a.length = ab.length := by rw [hab, compV_length _ pab]
  have Qab : Aside0 (compV addW a b = ab ∧ compE a b = 0) := ⟨hab.symm, compE_ok pab⟩
  have Pba : pairB b a = true := pairB_intro vb va (lb.symm.trans la)
  have Qba : Aside0 (compV addW b a = ab ∧ compE b a = 0) := ⟨by rw [hab]; exact (ring_add_comm ha hb hl).symm, compE_ok Pba⟩
  obtain ⟨p, hp⟩ : ∃ l, l = compV mulW a b := ⟨_, rfl⟩
  have pp : pairB a b = true := pairB_intro va vb (la.symm.trans lb)
  have vp : isV p = true := by rw [hp]; exact compV_isV _ pp
  have lp : a.length = p.length := by rw [hp, compV_length _ pp]
  have Qp : Aside0 (compV mulW a b = p ∧ compE a b = 0) := ⟨hp.symm, compE_ok pp⟩
  have Ppb : pairB b a = true := pairB_intro vb va (lb.symm.trans la)
  have Qpb : Aside0 (compV mulW b a = p ∧ compE b a = 0) := ⟨by rw [hp]; exact (ring_mul_comm ha hb hl).symm, compE_ok Ppb⟩
  obtain ⟨x, hx⟩ : ∃ l, l = compV addW ab c := ⟨_, rfl⟩
  have px : pairB ab c = true := pairB_intro vab vc (lab.symm.trans lc)
  have vx : isV x = true := by rw [hx]; exact compV_isV _ px
  have lx : a.length = x.length := by rw [hx, compV_length _ px]; exact lab
  have Qx : Aside0 (compV addW ab c = x ∧ compE ab c = 0) := ⟨hx.symm, compE_ok px⟩
  obtain ⟨bc, hbc⟩ : ∃ l, l = compV addW b c := ⟨_, rfl⟩
  have pbc : pairB b c = true := pairB_intro vb vc (lb.symm.trans lc)
  have vbc : isV bc = true := by rw [hbc]; exact compV_isV _ pbc
  have lbc : a.length = bc.length := by rw [hbc, compV_length _ pbc]; exact lb
  have Qbc : Aside0 (compV addW b c = bc ∧ compE b c = 0) := ⟨hbc.symm, compE_ok pbc⟩
  have Px2 : pairB a bc = true := pairB_intro va vbc (la.symm.trans lbc)
  have Qx2 : Aside0 (compV addW a bc = x ∧ compE a bc = 0) := ⟨by rw [hx, hab, hbc]; exact (ring_add_assoc ha hb hc hl hm).symm, compE_ok Px2⟩
  obtain ⟨y, hy⟩ : ∃ l, l = compV mulW p c := ⟨_, rfl⟩
  have py : pairB p c = true := pairB_intro vp vc (lp.symm.trans lc)
  have vy : isV y = true := by rw [hy]; exact compV_isV _ py
  have ly : a.length = y.length := by rw [hy, compV_length _ py]; exact lp
  have Qy : Aside0 (compV mulW p c = y ∧ compE p c = 0) := ⟨hy.symm, compE_ok py⟩
  obtain ⟨m, hmm⟩ : ∃ l, l = compV mulW b c := ⟨_, rfl⟩
  have pm : pairB b c = true := pairB_intro vb vc (lb.symm.trans lc)
  have vm : isV m = true := by rw [hmm]; exact compV_isV _ pm
  have lm : a.length = m.length := by rw [hmm, compV_length _ pm]; exact lb
  have Qm : Aside0 (compV mulW b c = m ∧ compE b c = 0) := ⟨hmm.symm, compE_ok pm⟩
  have Py2 : pairB a m = true := pairB_intro va vm (la.symm.trans lm)
  have Qy2 : Aside0 (compV mulW a m = y ∧ compE a m = 0) := ⟨by rw [hy, hp, hmm]; exact (ring_mul_assoc ha hb hc hl hm).symm, compE_ok Py2⟩
  have ka : knownB a = true := by simp only [sureB, Bool.and_eq_true] at k1; exact k1.2
  have kb : knownB b = true := by simp only [sureB, Bool.and_eq_true] at k2; exact k2.2
  have kc : knownB c = true := by simp only [sureB, Bool.and_eq_true] at k3; exact k3.2
  obtain ⟨z, hz⟩ : ∃ l, l = compV mulW a bc := ⟨_, rfl⟩
  have pz : pairB a bc = true := pairB_intro va vbc (la.symm.trans lbc)
  have vz : isV z = true := by rw [hz]; exact compV_isV _ pz
  have lz : a.length = z.length := by rw [hz, compV_length _ pz]
  have Qz : Aside0 (compV mulW a bc = z ∧ compE a bc = 0) := ⟨hz.symm, compE_ok pz⟩
  obtain ⟨r, hr⟩ : ∃ l, l = compV mulW a c := ⟨_, rfl⟩
  have pr : pairB a c = true := pairB_intro va vc (la.symm.trans lc)
  have vr : isV r = true := by rw [hr]; exact compV_isV _ pr
  have lr : a.length = r.length := by rw [hr, compV_length _ pr]
  have Qr : Aside0 (compV mulW a c = r ∧ compE a c = 0) := ⟨hr.symm, compE_ok pr⟩
  have Pz2 : pairB p r = true := pairB_intro vp vr (lp.symm.trans lr)
  have Qz2 : Aside0 (compV addW p r = z ∧ compE p r = 0) := ⟨by rw [hz, hp, hr, hbc]; exact (ring_distrib ha hb hc hl hm ka kb kc).symm, compE_ok Pz2⟩
  have Pd : pairB ab b = true := pairB_intro vab vb (lab.symm.trans lb)
  have Qd : Aside0 (compV subW ab b = a ∧ compE ab b = 0) := ⟨by rw [hab]; exact ring_sub ha hb hl ra.b ka kb, compE_ok Pd⟩
  have Ra := Aside0.mk ra
  have Rb := Aside0.mk rb
  have Rc := Aside0.mk rc
  clear ra rb rc
  have H1 := Aside0.mk ha
  have H2 := Aside0.mk hb
  have H3 := Aside0.mk hc
  have l1 : ((a.length : Int) != (b.length : Int)) = false := by simp; omega
  have l2 : ((a.length : Int) != (c.length : Int)) = false := by simp; omega
  have K1 := Aside0.mk k1
  have K2 := Aside0.mk k2
  have K3 := Aside0.mk k3
  clear ha hb hc hl hm hl2 va vb vc la lb lc hab pab vab lab hp pp vp lp hx px vx lx hbc pbc vbc lbc hy py vy ly hmm pm vm lm hz pz vz lz hr pr vr lr Pba Ppb Px2 Py2 Pz2 Pd k1 k2 k3 ka kb kc
  have HB0 := Aside0.mk (Below.refl w.heap.size w)
  go_enter Try.func5, Try.ntmps5
  go_wp2_with fail
  refine (refIs_calls _ _ _ _ Ra.out).mono ?_
  rintro e wq ⟨rfl, rfl⟩
  rw [H1.out]
  go_wp2_with fail
  refine (refIs_calls _ _ _ _ Rb.out).mono ?_
  rintro e wq ⟨rfl, rfl⟩
  rw [H2.out]
  go_wp2_with fail
  refine (refIs_calls _ _ _ _ Rc.out).mono ?_
  rintro e wq ⟨rfl, rfl⟩
  rw [H3.out]
  go_wp2_with fail
  refine (add_calls a b _ _ _ _ _ Ra.out Rb.out).mono ?_
  rintro e w1 ⟨v, rfl, ho, hb⟩
  rw [Qab.out.1] at ho
  rw [Qab.out.2]
  obtain ⟨A_ab_1, c_ab_1, rfl, h_ab_1, hr⟩ := ho.reads
  have HB1 := Aside0.mk (below_step HB0.out hb)
  have Ra_1 := Aside0.mk (Ra.out.below hb)
  have Rb_1 := Aside0.mk (Rb.out.below hb)
  have Rc_1 := Aside0.mk (Rc.out.below hb)
  clear HB0 Ra Rb Rc
  have Rab_n1 := Aside0.mk hr
  clear ho hb hr
  go_wp2_with fail
  refine (add_calls b a _ _ _ _ _ Rb_1.out Ra_1.out).mono ?_
  rintro e w2 ⟨v, rfl, ho, hb⟩
  rw [Qba.out.1] at ho
  rw [Qba.out.2]
  obtain ⟨A_ab_2, c_ab_2, rfl, h_ab_2, hr⟩ := ho.reads
  have HB2 := Aside0.mk (below_step HB1.out hb)
  have Ra_2 := Aside0.mk (Ra_1.out.below hb)
  have Rb_2 := Aside0.mk (Rb_1.out.below hb)
  have Rc_2 := Aside0.mk (Rc_1.out.below hb)
  have Rab_2 := Aside0.mk (Rab_n1.out.below hb)
  clear HB1 Ra_1 Rb_1 Rc_1 Rab_n1
  have Rab_n2 := Aside0.mk hr
  clear ho hb hr
  go_wp2_with fail
  refine (mul_calls a b _ _ _ _ _ Ra_2.out Rb_2.out).mono ?_
  rintro e w3 ⟨v, rfl, ho, hb⟩
  rw [Qp.out.1] at ho
  rw [Qp.out.2]
  obtain ⟨A_p_3, c_p_3, rfl, h_p_3, hr⟩ := ho.reads
  have HB3 := Aside0.mk (below_step HB2.out hb)
  have Ra_3 := Aside0.mk (Ra_2.out.below hb)
  have Rb_3 := Aside0.mk (Rb_2.out.below hb)
  have Rc_3 := Aside0.mk (Rc_2.out.below hb)
  have Rab_3 := Aside0.mk (Rab_2.out.below hb)
  have Rab_2_3 := Aside0.mk (Rab_n2.out.below hb)
  clear HB2 Ra_2 Rb_2 Rc_2 Rab_2 Rab_n2
  have Rp_n3 := Aside0.mk hr
  clear ho hb hr
  go_wp2_with fail
  refine (mul_calls b a _ _ _ _ _ Rb_3.out Ra_3.out).mono ?_
  rintro e w4 ⟨v, rfl, ho, hb⟩
  rw [Qpb.out.1] at ho
  rw [Qpb.out.2]
  obtain ⟨A_p_4, c_p_4, rfl, h_p_4, hr⟩ := ho.reads
  have HB4 := Aside0.mk (below_step HB3.out hb)
  have Ra_4 := Aside0.mk (Ra_3.out.below hb)
  have Rb_4 := Aside0.mk (Rb_3.out.below hb)
  have Rc_4 := Aside0.mk (Rc_3.out.below hb)
  have Rab_4 := Aside0.mk (Rab_3.out.below hb)
  have Rab_2_4 := Aside0.mk (Rab_2_3.out.below hb)
  have Rp_4 := Aside0.mk (Rp_n3.out.below hb)
  clear HB3 Ra_3 Rb_3 Rc_3 Rab_3 Rab_2_3 Rp_n3
  have Rp_n4 := Aside0.mk hr
  clear ho hb hr
  go_wp2_with fail
  refine (Same_below ab ab _ _ _ _ _ Rab_4.out Rab_2_4.out).mono ?_
  rintro e w5 ⟨rfl, hb⟩
  rw [eqB_refl]
  have HB5 := Aside0.mk (below_step HB4.out hb)
  have Ra_5 := Aside0.mk (Ra_4.out.below hb)
  have Rb_5 := Aside0.mk (Rb_4.out.below hb)
  have Rc_5 := Aside0.mk (Rc_4.out.below hb)
  have Rab_5 := Aside0.mk (Rab_4.out.below hb)
  have Rab_2_5 := Aside0.mk (Rab_2_4.out.below hb)
  have Rp_5 := Aside0.mk (Rp_4.out.below hb)
  have Rp_4_5 := Aside0.mk (Rp_n4.out.below hb)
  clear HB4 Ra_4 Rb_4 Rc_4 Rab_4 Rab_2_4 Rp_4 Rp_n4
  clear hb
  go_wp2_with fail
  refine (Same_below p p _ _ _ _ _ Rp_5.out Rp_4_5.out).mono ?_
  rintro e w6 ⟨rfl, hb⟩
  rw [eqB_refl]
  have HB6 := Aside0.mk (below_step HB5.out hb)
  have Ra_6 := Aside0.mk (Ra_5.out.below hb)
  have Rb_6 := Aside0.mk (Rb_5.out.below hb)
  have Rc_6 := Aside0.mk (Rc_5.out.below hb)
  have Rab_6 := Aside0.mk (Rab_5.out.below hb)
  have Rab_2_6 := Aside0.mk (Rab_2_5.out.below hb)
  have Rp_6 := Aside0.mk (Rp_5.out.below hb)
  have Rp_4_6 := Aside0.mk (Rp_4_5.out.below hb)
  clear HB5 Ra_5 Rb_5 Rc_5 Rab_5 Rab_2_5 Rp_5 Rp_4_5
  clear hb
  go_wp2_with fail
  clear Rab_2_6
  clear Rp_4_6
  refine (add_calls ab c _ _ _ _ _ Rab_6.out Rc_6.out).mono ?_
  rintro e w7 ⟨v, rfl, ho, hb⟩
  rw [Qx.out.1] at ho
  rw [Qx.out.2]
  obtain ⟨A_x_7, c_x_7, rfl, h_x_7, hr⟩ := ho.reads
  have HB7 := Aside0.mk (below_step HB6.out hb)
  have Ra_7 := Aside0.mk (Ra_6.out.below hb)
  have Rb_7 := Aside0.mk (Rb_6.out.below hb)
  have Rc_7 := Aside0.mk (Rc_6.out.below hb)
  have Rab_7 := Aside0.mk (Rab_6.out.below hb)
  have Rp_7 := Aside0.mk (Rp_6.out.below hb)
  clear HB6 Ra_6 Rb_6 Rc_6 Rab_6 Rp_6
  have Rx_n7 := Aside0.mk hr
  clear ho hb hr
  go_wp2_with fail
  refine (add_calls b c _ _ _ _ _ Rb_7.out Rc_7.out).mono ?_
  rintro e w8 ⟨v, rfl, ho, hb⟩
  rw [Qbc.out.1] at ho
  rw [Qbc.out.2]
  obtain ⟨A_bc_8, c_bc_8, rfl, h_bc_8, hr⟩ := ho.reads
  have HB8 := Aside0.mk (below_step HB7.out hb)
  have Ra_8 := Aside0.mk (Ra_7.out.below hb)
  have Rb_8 := Aside0.mk (Rb_7.out.below hb)
  have Rc_8 := Aside0.mk (Rc_7.out.below hb)
  have Rab_8 := Aside0.mk (Rab_7.out.below hb)
  have Rp_8 := Aside0.mk (Rp_7.out.below hb)
  have Rx_8 := Aside0.mk (Rx_n7.out.below hb)
  clear HB7 Ra_7 Rb_7 Rc_7 Rab_7 Rp_7 Rx_n7
  have Rbc_n8 := Aside0.mk hr
  clear ho hb hr
  go_wp2_with fail
  refine (add_calls a bc _ _ _ _ _ Ra_8.out Rbc_n8.out).mono ?_
  rintro e w9 ⟨v, rfl, ho, hb⟩
  rw [Qx2.out.1] at ho
  rw [Qx2.out.2]
  obtain ⟨A_x_9, c_x_9, rfl, h_x_9, hr⟩ := ho.reads
  have HB9 := Aside0.mk (below_step HB8.out hb)
  have Ra_9 := Aside0.mk (Ra_8.out.below hb)
  have Rb_9 := Aside0.mk (Rb_8.out.below hb)
  have Rc_9 := Aside0.mk (Rc_8.out.below hb)
  have Rab_9 := Aside0.mk (Rab_8.out.below hb)
  have Rp_9 := Aside0.mk (Rp_8.out.below hb)
  have Rx_9 := Aside0.mk (Rx_8.out.below hb)
  have Rbc_9 := Aside0.mk (Rbc_n8.out.below hb)
  clear HB8 Ra_8 Rb_8 Rc_8 Rab_8 Rp_8 Rx_8 Rbc_n8
  have Rx_n9 := Aside0.mk hr
  clear ho hb hr
  go_wp2_with fail
  refine (Same_below x x _ _ _ _ _ Rx_9.out Rx_n9.out).mono ?_
  rintro e w10 ⟨rfl, hb⟩
  rw [eqB_refl]
  have HB10 := Aside0.mk (below_step HB9.out hb)
  have Ra_10 := Aside0.mk (Ra_9.out.below hb)
  have Rb_10 := Aside0.mk (Rb_9.out.below hb)
  have Rc_10 := Aside0.mk (Rc_9.out.below hb)
  have Rab_10 := Aside0.mk (Rab_9.out.below hb)
  have Rp_10 := Aside0.mk (Rp_9.out.below hb)
  have Rx_10 := Aside0.mk (Rx_9.out.below hb)
  have Rbc_10 := Aside0.mk (Rbc_9.out.below hb)
  have Rx_9_10 := Aside0.mk (Rx_n9.out.below hb)
  clear HB9 Ra_9 Rb_9 Rc_9 Rab_9 Rp_9 Rx_9 Rbc_9 Rx_n9
  clear hb
  go_wp2_with fail
  clear Rx_10
  clear Rx_9_10
  refine (mul_calls p c _ _ _ _ _ Rp_10.out Rc_10.out).mono ?_
  rintro e w11 ⟨v, rfl, ho, hb⟩
  rw [Qy.out.1] at ho
  rw [Qy.out.2]
  obtain ⟨A_y_11, c_y_11, rfl, h_y_11, hr⟩ := ho.reads
  have HB11 := Aside0.mk (below_step HB10.out hb)
  have Ra_11 := Aside0.mk (Ra_10.out.below hb)
  have Rb_11 := Aside0.mk (Rb_10.out.below hb)
  have Rc_11 := Aside0.mk (Rc_10.out.below hb)
  have Rab_11 := Aside0.mk (Rab_10.out.below hb)
  have Rp_11 := Aside0.mk (Rp_10.out.below hb)
  have Rbc_11 := Aside0.mk (Rbc_10.out.below hb)
  clear HB10 Ra_10 Rb_10 Rc_10 Rab_10 Rp_10 Rbc_10
  have Ry_n11 := Aside0.mk hr
  clear ho hb hr
  go_wp2_with fail
  refine (mul_calls b c _ _ _ _ _ Rb_11.out Rc_11.out).mono ?_
  rintro e w12 ⟨v, rfl, ho, hb⟩
  rw [Qm.out.1] at ho
  rw [Qm.out.2]
  obtain ⟨A_m_12, c_m_12, rfl, h_m_12, hr⟩ := ho.reads
  have HB12 := Aside0.mk (below_step HB11.out hb)
  have Ra_12 := Aside0.mk (Ra_11.out.below hb)
  have Rb_12 := Aside0.mk (Rb_11.out.below hb)
  have Rc_12 := Aside0.mk (Rc_11.out.below hb)
  have Rab_12 := Aside0.mk (Rab_11.out.below hb)
  have Rp_12 := Aside0.mk (Rp_11.out.below hb)
  have Rbc_12 := Aside0.mk (Rbc_11.out.below hb)
  have Ry_12 := Aside0.mk (Ry_n11.out.below hb)
  clear HB11 Ra_11 Rb_11 Rc_11 Rab_11 Rp_11 Rbc_11 Ry_n11
  have Rm_n12 := Aside0.mk hr
  clear ho hb hr
  go_wp2_with fail
  refine (mul_calls a m _ _ _ _ _ Ra_12.out Rm_n12.out).mono ?_
  rintro e w13 ⟨v, rfl, ho, hb⟩
  rw [Qy2.out.1] at ho
  rw [Qy2.out.2]
  obtain ⟨A_y_13, c_y_13, rfl, h_y_13, hr⟩ := ho.reads
  have HB13 := Aside0.mk (below_step HB12.out hb)
  have Ra_13 := Aside0.mk (Ra_12.out.below hb)
  have Rb_13 := Aside0.mk (Rb_12.out.below hb)
  have Rc_13 := Aside0.mk (Rc_12.out.below hb)
  have Rab_13 := Aside0.mk (Rab_12.out.below hb)
  have Rp_13 := Aside0.mk (Rp_12.out.below hb)
  have Rbc_13 := Aside0.mk (Rbc_12.out.below hb)
  have Ry_13 := Aside0.mk (Ry_12.out.below hb)
  have Rm_13 := Aside0.mk (Rm_n12.out.below hb)
  clear HB12 Ra_12 Rb_12 Rc_12 Rab_12 Rp_12 Rbc_12 Ry_12 Rm_n12
  have Ry_n13 := Aside0.mk hr
  clear ho hb hr
  go_wp2_with fail
  refine (Same_below y y _ _ _ _ _ Ry_13.out Ry_n13.out).mono ?_
  rintro e w14 ⟨rfl, hb⟩
  rw [eqB_refl]
  have HB14 := Aside0.mk (below_step HB13.out hb)
  have Ra_14 := Aside0.mk (Ra_13.out.below hb)
  have Rb_14 := Aside0.mk (Rb_13.out.below hb)
  have Rc_14 := Aside0.mk (Rc_13.out.below hb)
  have Rab_14 := Aside0.mk (Rab_13.out.below hb)
  have Rp_14 := Aside0.mk (Rp_13.out.below hb)
  have Rbc_14 := Aside0.mk (Rbc_13.out.below hb)
  have Ry_14 := Aside0.mk (Ry_13.out.below hb)
  have Rm_14 := Aside0.mk (Rm_13.out.below hb)
  have Ry_13_14 := Aside0.mk (Ry_n13.out.below hb)
  clear HB13 Ra_13 Rb_13 Rc_13 Rab_13 Rp_13 Rbc_13 Ry_13 Rm_13 Ry_n13
  clear hb
  go_wp2_with fail
  clear Ry_14
  clear Ry_13_14
  clear Rm_14
  refine (sure_calls _ _ _ _ Ra_14.out).mono ?_
  rintro e wq ⟨rfl, rfl⟩
  rw [K1.out]
  go_wp2_with fail
  refine (sure_calls _ _ _ _ Rb_14.out).mono ?_
  rintro e wq ⟨rfl, rfl⟩
  rw [K2.out]
  go_wp2_with fail
  refine (sure_calls _ _ _ _ Rc_14.out).mono ?_
  rintro e wq ⟨rfl, rfl⟩
  rw [K3.out]
  go_wp2_with fail
  refine (mul_calls a bc _ _ _ _ _ Ra_14.out Rbc_14.out).mono ?_
  rintro e w15 ⟨v, rfl, ho, hb⟩
  rw [Qz.out.1] at ho
  rw [Qz.out.2]
  obtain ⟨A_z_15, c_z_15, rfl, h_z_15, hr⟩ := ho.reads
  have HB15 := Aside0.mk (below_step HB14.out hb)
  have Ra_15 := Aside0.mk (Ra_14.out.below hb)
  have Rb_15 := Aside0.mk (Rb_14.out.below hb)
  have Rc_15 := Aside0.mk (Rc_14.out.below hb)
  have Rab_15 := Aside0.mk (Rab_14.out.below hb)
  have Rp_15 := Aside0.mk (Rp_14.out.below hb)
  have Rbc_15 := Aside0.mk (Rbc_14.out.below hb)
  clear HB14 Ra_14 Rb_14 Rc_14 Rab_14 Rp_14 Rbc_14
  have Rz_n15 := Aside0.mk hr
  clear ho hb hr
  go_wp2_with fail
  refine (mul_calls a c _ _ _ _ _ Ra_15.out Rc_15.out).mono ?_
  rintro e w16 ⟨v, rfl, ho, hb⟩
  rw [Qr.out.1] at ho
  rw [Qr.out.2]
  obtain ⟨A_r_16, c_r_16, rfl, h_r_16, hr⟩ := ho.reads
  have HB16 := Aside0.mk (below_step HB15.out hb)
  have Ra_16 := Aside0.mk (Ra_15.out.below hb)
  have Rb_16 := Aside0.mk (Rb_15.out.below hb)
  have Rc_16 := Aside0.mk (Rc_15.out.below hb)
  have Rab_16 := Aside0.mk (Rab_15.out.below hb)
  have Rp_16 := Aside0.mk (Rp_15.out.below hb)
  have Rbc_16 := Aside0.mk (Rbc_15.out.below hb)
  have Rz_16 := Aside0.mk (Rz_n15.out.below hb)
  clear HB15 Ra_15 Rb_15 Rc_15 Rab_15 Rp_15 Rbc_15 Rz_n15
  have Rr_n16 := Aside0.mk hr
  clear ho hb hr
  go_wp2_with fail
  refine (add_calls p r _ _ _ _ _ Rp_16.out Rr_n16.out).mono ?_
  rintro e w17 ⟨v, rfl, ho, hb⟩
  rw [Qz2.out.1] at ho
  rw [Qz2.out.2]
  obtain ⟨A_z_17, c_z_17, rfl, h_z_17, hr⟩ := ho.reads
  have HB17 := Aside0.mk (below_step HB16.out hb)
  have Ra_17 := Aside0.mk (Ra_16.out.below hb)
  have Rb_17 := Aside0.mk (Rb_16.out.below hb)
  have Rc_17 := Aside0.mk (Rc_16.out.below hb)
  have Rab_17 := Aside0.mk (Rab_16.out.below hb)
  have Rp_17 := Aside0.mk (Rp_16.out.below hb)
  have Rbc_17 := Aside0.mk (Rbc_16.out.below hb)
  have Rz_17 := Aside0.mk (Rz_16.out.below hb)
  have Rr_17 := Aside0.mk (Rr_n16.out.below hb)
  clear HB16 Ra_16 Rb_16 Rc_16 Rab_16 Rp_16 Rbc_16 Rz_16 Rr_n16
  have Rz_n17 := Aside0.mk hr
  clear ho hb hr
  go_wp2_with fail
  refine (sub_calls ab b _ _ _ _ _ Rab_17.out Rb_17.out).mono ?_
  rintro e w18 ⟨v, rfl, ho, hb⟩
  rw [Qd.out.1] at ho
  rw [Qd.out.2]
  obtain ⟨A_a_18, c_a_18, rfl, h_a_18, hr⟩ := ho.reads
  have HB18 := Aside0.mk (below_step HB17.out hb)
  have Ra_18 := Aside0.mk (Ra_17.out.below hb)
  have Rb_18 := Aside0.mk (Rb_17.out.below hb)
  have Rc_18 := Aside0.mk (Rc_17.out.below hb)
  have Rab_18 := Aside0.mk (Rab_17.out.below hb)
  have Rp_18 := Aside0.mk (Rp_17.out.below hb)
  have Rbc_18 := Aside0.mk (Rbc_17.out.below hb)
  have Rz_18 := Aside0.mk (Rz_17.out.below hb)
  have Rr_18 := Aside0.mk (Rr_17.out.below hb)
  have Rz_17_18 := Aside0.mk (Rz_n17.out.below hb)
  clear HB17 Ra_17 Rb_17 Rc_17 Rab_17 Rp_17 Rbc_17 Rz_17 Rr_17 Rz_n17
  have Ra_n18 := Aside0.mk hr
  clear ho hb hr
  go_wp2_with fail
  refine (Same_below z z _ _ _ _ _ Rz_18.out Rz_17_18.out).mono ?_
  rintro e w19 ⟨rfl, hb⟩
  rw [eqB_refl]
  have HB19 := Aside0.mk (below_step HB18.out hb)
  have Ra_19 := Aside0.mk (Ra_18.out.below hb)
  have Rb_19 := Aside0.mk (Rb_18.out.below hb)
  have Rc_19 := Aside0.mk (Rc_18.out.below hb)
  have Rab_19 := Aside0.mk (Rab_18.out.below hb)
  have Rp_19 := Aside0.mk (Rp_18.out.below hb)
  have Rbc_19 := Aside0.mk (Rbc_18.out.below hb)
  have Rz_19 := Aside0.mk (Rz_18.out.below hb)
  have Rr_19 := Aside0.mk (Rr_18.out.below hb)
  have Rz_17_19 := Aside0.mk (Rz_17_18.out.below hb)
  have Ra_18_19 := Aside0.mk (Ra_n18.out.below hb)
  clear HB18 Ra_18 Rb_18 Rc_18 Rab_18 Rp_18 Rbc_18 Rz_18 Rr_18 Rz_17_18 Ra_n18
  clear hb
  go_wp2_with fail
  clear Rz_19
  clear Rz_17_19
  clear Rr_19
  refine (Same_below a a _ _ _ _ _ Ra_18_19.out Ra_19.out).mono ?_
  rintro e w20 ⟨rfl, hb⟩
  rw [eqB_refl]
  have HB20 := Aside0.mk (below_step HB19.out hb)
  have Ra_20 := Aside0.mk (Ra_19.out.below hb)
  have Rb_20 := Aside0.mk (Rb_19.out.below hb)
  have Rc_20 := Aside0.mk (Rc_19.out.below hb)
  have Rab_20 := Aside0.mk (Rab_19.out.below hb)
  have Rp_20 := Aside0.mk (Rp_19.out.below hb)
  have Rbc_20 := Aside0.mk (Rbc_19.out.below hb)
  have Ra_18_20 := Aside0.mk (Ra_18_19.out.below hb)
  clear HB19 Ra_19 Rb_19 Rc_19 Rab_19 Rp_19 Rbc_19 Ra_18_19
  clear hb
  go_wp2_with fail
  refine (awake_calls _).mono ?_
  rintro e w21 ⟨rfl, hb⟩
  have HBz := Aside0.mk (below_step HB20.out hb)
  clear hb
  go_wp2_with fail
  go_ret
  exact ⟨rfl, HBz.out⟩

theorem vecRing_walk (w : World) (a : List Int) (A : Option Addr) (ca : Nat) (ra : Rd w A a) (hca : a.length ≤ ca) (b : List Int) (B : Option Addr) (cb : Nat) (rb : Rd w B b) (hcb : b.length ≤ cb) (c : List Int) (C : Option Addr) (cc : Nat) (rc : Rd w C c) (hcc : c.length ≤ cc) :
    Calls Try.prog 5 #[.slice A a.length ca, .slice B b.length cb, .slice C c.length cc] w fun e w' => e = .returned (.bool true) ∧ Below w.heap.size w w' := by
  cases ha : isV a
  · exact ring_bad1 w a A ca ra b B cb rb c C cc rc ha
  cases hb : isV b
  · exact ring_bad2 w a A ca ra b B cb rb c C cc rc ha hb
  cases hc : isV c
  · exact ring_bad3 w a A ca ra b B cb rb c C cc rc ha hb hc
  by_cases hl : a.length = b.length
  · by_cases hm : a.length = c.length
    · cases k1 : sureB a
      · exact ring_ok1 w a A ca ra b B cb rb c C cc rc ha hb hc hl hm k1
      cases k2 : sureB b
      · exact ring_ok2 w a A ca ra b B cb rb c C cc rc ha hb hc hl hm k1 k2
      cases k3 : sureB c
      · exact ring_ok3 w a A ca ra b B cb rb c C cc rc ha hb hc hl hm k1 k2 k3
      · exact ring_ok4 w a A ca ra b B cb rb c C cc rc ha hb hc hl hm k1 k2 k3
    · exact ring_bad5 w a A ca ra b B cb rb c C cc rc ha hb hc hl hm
  · exact ring_bad4 w a A ca ra b B cb rb c C cc rc ha hb hc hl
end Go.Proofs.Ytaffdpgacggllaa.V
