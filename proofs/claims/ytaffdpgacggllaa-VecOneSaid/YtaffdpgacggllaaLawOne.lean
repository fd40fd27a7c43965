/- The walk of the statement VecOne. -/
import Derived.BigRegion
import Derived.Test.YtaffdpgacggllaaUb
namespace Go.Proofs.Ytaffdpgacggllaa.V
open Go.RowKit Go.Proofs.YtaffdpgacggllaaW.PrintWords Go.Proofs.YtaffdpgacggllaaW.PrintLast Go.Proofs.YtaffdpgacggllaaW.PrintMore
attribute [local go_sem] max2_int min2_int max_two min_two
set_option linter.unusedVariables false
set_option linter.unusedSimpArgs false

theorem Own.other {w : World} {base g n cap g2 k : Nat} {xs : List Int} (h : Own w base (.slice (some ⟨g, 0, none⟩) n cap) xs) (hne : g ≠ g2) (u : Value) : Own (w.setCell ⟨g2, k, none⟩ u) base (.slice (some ⟨g, 0, none⟩) n cap) xs := by
  obtain ⟨cur, h0, h1, h2, h3, h4, h5, h6⟩ := h.block
  exact Own.of_block (by rw [Below.heap_setCell _ _ _ _ hne]; exact h0) h1 h2 h3 h4 h5 h6 h.b
theorem Own.drew {w : World} {base : Nat} {v : Value} {xs : List Int} (h : Own w base v xs) : Own w.drew base v xs := h.below ((Below.refl _ w).drew)
theorem Own.reads_at {w : World} {base g n cap : Nat} {xs : List Int} (h : Own w base (.slice (some ⟨g, 0, none⟩) n cap) xs) : Rd w (some ⟨g, 0, none⟩) xs := by
  obtain ⟨A, c, e, _, hr⟩ := h.reads
  injection e with e1 e2 e3
  subst e1
  exact hr
set_option maxRecDepth 100000 in
set_option maxHeartbeats 8000000 in
theorem one_bad1 (w : World) (a : List Int) (A : Option Addr) (ca : Nat) (ra : Rd w A a) (b : List Int) (B : Option Addr) (cb : Nat) (rb : Rd w B b) (h1 : isV a = false) :
    Calls Try.prog 7 #[.slice A a.length ca, .slice B b.length cb] w fun e w' => e = .returned (.bool true) ∧ Below w.heap.size w w' := by
  have Ra := Aside0.mk ra
  have Rb := Aside0.mk rb
  clear ra rb
  have H1 := Aside0.mk h1
  clear h1
  have HB0 := Aside0.mk (Below.refl w.heap.size w)
  go_enter Try.func7, Try.ntmps7
  go_wp2_with fail
  refine (refIs_calls _ _ _ _ Ra.out).mono ?_
  rintro e wq ⟨rfl, rfl⟩
  rw [H1.out]
  go_wp2_with fail
  refine (awake_calls _).mono ?_
  rintro e w1 ⟨rfl, hb⟩
  have HBz := Aside0.mk (below_step HB0.out hb)
  clear hb
  go_wp2_with fail
  go_ret
  exact ⟨rfl, HBz.out⟩
set_option maxRecDepth 100000 in
set_option maxHeartbeats 8000000 in
theorem one_bad2 (w : World) (a : List Int) (A : Option Addr) (ca : Nat) (ra : Rd w A a) (b : List Int) (B : Option Addr) (cb : Nat) (rb : Rd w B b) (h1 : isV a = true) (h2 : isV b = false) :
    Calls Try.prog 7 #[.slice A a.length ca, .slice B b.length cb] w fun e w' => e = .returned (.bool true) ∧ Below w.heap.size w w' := by
  have Ra := Aside0.mk ra
  have Rb := Aside0.mk rb
  clear ra rb
  have H1 := Aside0.mk h1
  clear h1
  have H2 := Aside0.mk h2
  clear h2
  have HB0 := Aside0.mk (Below.refl w.heap.size w)
  go_enter Try.func7, Try.ntmps7
  go_wp2_with fail
  refine (refIs_calls _ _ _ _ Ra.out).mono ?_
  rintro e wq ⟨rfl, rfl⟩
  rw [H1.out]
  go_wp2_with fail
  refine (refIs_calls _ _ _ _ Rb.out).mono ?_
  rintro e wq ⟨rfl, rfl⟩
  rw [H2.out]
  go_wp2_with fail
  refine (awake_calls _).mono ?_
  rintro e w1 ⟨rfl, hb⟩
  have HBz := Aside0.mk (below_step HB0.out hb)
  clear hb
  go_wp2_with fail
  go_ret
  exact ⟨rfl, HBz.out⟩
set_option maxRecDepth 100000 in
set_option maxHeartbeats 8000000 in
theorem one_bad3 (w : World) (a : List Int) (A : Option Addr) (ca : Nat) (ra : Rd w A a) (b : List Int) (B : Option Addr) (cb : Nat) (rb : Rd w B b) (h1 : isV a = true) (h2 : isV b = true) (h0 : ¬ a.length = b.length) :
    Calls Try.prog 7 #[.slice A a.length ca, .slice B b.length cb] w fun e w' => e = .returned (.bool true) ∧ Below w.heap.size w w' := by
  have Ra := Aside0.mk ra
  have Rb := Aside0.mk rb
  clear ra rb
  have H1 := Aside0.mk h1
  clear h1
  have H2 := Aside0.mk h2
  clear h2
  have hlb : ((a.length : Int) != (b.length : Int)) = true := by simp; omega
  have HB0 := Aside0.mk (Below.refl w.heap.size w)
  go_enter Try.func7, Try.ntmps7
  go_wp2_with fail
  refine (refIs_calls _ _ _ _ Ra.out).mono ?_
  rintro e wq ⟨rfl, rfl⟩
  rw [H1.out]
  go_wp2_with fail
  refine (refIs_calls _ _ _ _ Rb.out).mono ?_
  rintro e wq ⟨rfl, rfl⟩
  rw [H2.out]
  go_wp2_with fail
  refine (awake_calls _).mono ?_
  rintro e w1 ⟨rfl, hb⟩
  have HBz := Aside0.mk (below_step HB0.out hb)
  clear hb
  go_wp2_with fail
  go_ret
  exact ⟨rfl, HBz.out⟩
set_option maxRecDepth 100000 in
set_option maxHeartbeats 8000000 in
theorem one_bad4 (w : World) (a : List Int) (A : Option Addr) (ca : Nat) (ra : Rd w A a) (b : List Int) (B : Option Addr) (cb : Nat) (rb : Rd w B b) (h1 : isV a = true) (h2 : isV b = true) (h0 : a.length = b.length) (h3 : sureB a = false) :
    Calls Try.prog 7 #[.slice A a.length ca, .slice B b.length cb] w fun e w' => e = .returned (.bool true) ∧ Below w.heap.size w w' := by
  have Ra := Aside0.mk ra
  have Rb := Aside0.mk rb
  clear ra rb
  have H1 := Aside0.mk h1
  clear h1
  have H2 := Aside0.mk h2
  clear h2
  have H3 := Aside0.mk h3
  clear h3
  have hlb : ((a.length : Int) != (b.length : Int)) = false := by simp [h0]
  have LE := Aside0.mk h0
  clear h0
  have HB0 := Aside0.mk (Below.refl w.heap.size w)
  go_enter Try.func7, Try.ntmps7
  go_wp2_with fail
  refine (refIs_calls _ _ _ _ Ra.out).mono ?_
  rintro e wq ⟨rfl, rfl⟩
  rw [H1.out]
  go_wp2_with fail
  refine (refIs_calls _ _ _ _ Rb.out).mono ?_
  rintro e wq ⟨rfl, rfl⟩
  rw [H2.out]
  go_wp2_with fail
  refine (sure_calls _ _ _ _ Ra.out).mono ?_
  rintro e wq ⟨rfl, rfl⟩
  rw [H3.out]
  go_wp2_with fail
  refine (awake_calls _).mono ?_
  rintro e w1 ⟨rfl, hb⟩
  have HBz := Aside0.mk (below_step HB0.out hb)
  clear hb
  go_wp2_with fail
  go_ret
  exact ⟨rfl, HBz.out⟩
set_option maxRecDepth 100000 in
set_option maxHeartbeats 8000000 in
theorem one_bad5 (w : World) (a : List Int) (A : Option Addr) (ca : Nat) (ra : Rd w A a) (b : List Int) (B : Option Addr) (cb : Nat) (rb : Rd w B b) (h1 : isV a = true) (h2 : isV b = true) (h0 : a.length = b.length) (h3 : sureB a = true) (h4 : sureB b = false) :
    Calls Try.prog 7 #[.slice A a.length ca, .slice B b.length cb] w fun e w' => e = .returned (.bool true) ∧ Below w.heap.size w w' := by
  have Ra := Aside0.mk ra
  have Rb := Aside0.mk rb
  clear ra rb
  have H1 := Aside0.mk h1
  clear h1
  have H2 := Aside0.mk h2
  clear h2
  have H3 := Aside0.mk h3
  clear h3
  have H4 := Aside0.mk h4
  clear h4
  have hlb : ((a.length : Int) != (b.length : Int)) = false := by simp [h0]
  have LE := Aside0.mk h0
  clear h0
  have HB0 := Aside0.mk (Below.refl w.heap.size w)
  go_enter Try.func7, Try.ntmps7
  go_wp2_with fail
  refine (refIs_calls _ _ _ _ Ra.out).mono ?_
  rintro e wq ⟨rfl, rfl⟩
  rw [H1.out]
  go_wp2_with fail
  refine (refIs_calls _ _ _ _ Rb.out).mono ?_
  rintro e wq ⟨rfl, rfl⟩
  rw [H2.out]
  go_wp2_with fail
  refine (sure_calls _ _ _ _ Ra.out).mono ?_
  rintro e wq ⟨rfl, rfl⟩
  rw [H3.out]
  go_wp2_with fail
  refine (sure_calls _ _ _ _ Rb.out).mono ?_
  rintro e wq ⟨rfl, rfl⟩
  rw [H4.out]
  go_wp2_with fail
  refine (awake_calls _).mono ?_
  rintro e w1 ⟨rfl, hb⟩
  have HBz := Aside0.mk (below_step HB0.out hb)
  clear hb
  go_wp2_with fail
  go_ret
  exact ⟨rfl, HBz.out⟩
set_option maxRecDepth 100000 in
set_option maxHeartbeats 8000000 in
theorem one_tftf (w : World) (a : List Int) (A : Option Addr) (ca : Nat) (ra : Rd w A a) (b : List Int) (B : Option Addr) (cb : Nat) (rb : Rd w B b) (h1 : isV a = true) (h2 : isV b = true) (h0 : a.length = b.length) (h3 : sureB a = true) (h4 : sureB b = true) (hL : lessB a b = true) (hM : lessB b a = false) (hS : sameB a b = false) (hB : signedB a b = true) (hA : signedB b a = false) :
    Calls Try.prog 7 #[.slice A a.length ca, .slice B b.length cb] w fun e w' => e = .returned (.bool true) ∧ Below w.heap.size w w' := by
  have Ra := Aside0.mk ra
  have Rb := Aside0.mk rb
  clear ra rb
  have hn1 := (isV_pos h1).1
  have h64 := (isV_pos h1).2.1
  have k1 : knownB a = true := by simpa [sureB, h1] using h3
  have k2 : knownB b = true := by simpa [sureB, h2] using h4
  have p := pairB_intro h1 h2 h0
  have p' := one_swap p
  have bo : bothB a b = true := by simp [bothB, k1, k2]
  have C1 := Aside0.mk (compE_ok p)
  have C2 := Aside0.mk (compE_ok p')
  have T := Aside0.mk (one_turned p bo Ra.out.b Rb.out.b)
  have C3 := Aside0.mk (compE_ok (pairB_intro (flip_isV h1 k1 Ra.out.b) (flip_isV h2 k2 Rb.out.b) ((flip_length a).trans (h0.trans (flip_length b).symm))))
  have FA := Aside0.mk (flip_range k1 Ra.out.b)
  have FB := Aside0.mk (flip_range k2 Rb.out.b)
  have HL := Aside0.mk hL
  have HM := Aside0.mk hM
  have HS := Aside0.mk hS
  have HE := Aside0.mk hB
  have HA := Aside0.mk hA
  clear hL hM hS hB hA p p' bo k1 k2
  have H1 := Aside0.mk h1
  clear h1
  have H2 := Aside0.mk h2
  clear h2
  have H3 := Aside0.mk h3
  clear h3
  have H4 := Aside0.mk h4
  clear h4
  have hlb : ((a.length : Int) != (b.length : Int)) = false := by simp [h0]
  have LE := Aside0.mk h0
  obtain ⟨q, hq⟩ : ∃ q : Nat, q = a.length - 1 := ⟨_, rfl⟩
  have hqi : (a.length : Int) - 1 = q := by omega
  have hqj : (b.length : Int) - 1 = q := by omega
  have hq1 : q < a.length := by omega
  have hq2 : q < b.length := by omega
  have FQ := Aside0.mk hq
  clear hq
  have LA : a.length ≤ 1000 := by omega
  have LB : b.length ≤ 1000 := by omega
  have h64b : b.length ≤ 64 := by omega
  clear h0
  have HB0 := Aside0.mk (Below.refl w.heap.size w)
  go_enter Try.func7, Try.ntmps7
  go_wp2_with fail
  refine (refIs_calls _ _ _ _ Ra.out).mono ?_
  rintro e wq ⟨rfl, rfl⟩
  rw [H1.out]
  go_wp2_with fail
  refine (refIs_calls _ _ _ _ Rb.out).mono ?_
  rintro e wq ⟨rfl, rfl⟩
  rw [H2.out]
  go_wp2_with fail
  refine (sure_calls _ _ _ _ Ra.out).mono ?_
  rintro e wq ⟨rfl, rfl⟩
  rw [H3.out]
  go_wp2_with fail
  refine (sure_calls _ _ _ _ Rb.out).mono ?_
  rintro e wq ⟨rfl, rfl⟩
  rw [H4.out]
  go_wp2_with fail
  refine (less_calls a b _ _ _ _ _ Ra.out Rb.out).mono ?_
  rintro e w1 ⟨rfl, hb⟩
  rw [HL.out]
  rw [C1.out]
  have HB1 := Aside0.mk (below_step HB0.out hb)
  have Ra_1 := Aside0.mk (Ra.out.below hb)
  have Rb_1 := Aside0.mk (Rb.out.below hb)
  clear HB0 Ra Rb
  clear hb
  go_wp2_with fail
  refine (less_calls b a _ _ _ _ _ Rb_1.out Ra_1.out).mono ?_
  rintro e w2 ⟨rfl, hb⟩
  rw [HM.out]
  rw [C2.out]
  have HB2 := Aside0.mk (below_step HB1.out hb)
  have Ra_2 := Aside0.mk (Ra_1.out.below hb)
  have Rb_2 := Aside0.mk (Rb_1.out.below hb)
  clear HB1 Ra_1 Rb_1
  clear hb
  go_wp2_with fail
  refine (same_calls a b _ _ _ _ _ Ra_2.out Rb_2.out).mono ?_
  rintro e w3 ⟨rfl, hb⟩
  rw [HS.out]
  rw [C1.out]
  have HB3 := Aside0.mk (below_step HB2.out hb)
  have Ra_3 := Aside0.mk (Ra_2.out.below hb)
  have Rb_3 := Aside0.mk (Rb_2.out.below hb)
  clear HB2 Ra_2 Rb_2
  clear hb
  go_wp2_with fail
  refine (signed_calls a b _ _ _ _ _ Ra_3.out Rb_3.out).mono ?_
  rintro e w4 ⟨rfl, hb⟩
  rw [HE.out]
  rw [C1.out]
  have HB4 := Aside0.mk (below_step HB3.out hb)
  have Ra_4 := Aside0.mk (Ra_3.out.below hb)
  have Rb_4 := Aside0.mk (Rb_3.out.below hb)
  clear HB3 Ra_3 Rb_3
  clear hb
  go_wp2_with fail
  refine (signed_calls b a _ _ _ _ _ Rb_4.out Ra_4.out).mono ?_
  rintro e w5 ⟨rfl, hb⟩
  rw [HA.out]
  rw [C2.out]
  have HB5 := Aside0.mk (below_step HB4.out hb)
  have Ra_5 := Aside0.mk (Ra_4.out.below hb)
  have Rb_5 := Aside0.mk (Rb_4.out.below hb)
  clear HB4 Ra_4 Rb_4
  clear hb
  go_wp2_with fail
  refine (copied_calls a _ _ _ Ra_5.out LA).mono ?_
  rintro e w6 ⟨v, rfl, ho, hb⟩
  obtain ⟨g1, c1, rfl, hg1, hg1b⟩ := ho.form (by omega)
  have hz1 : w.heap.size ≤ g1 := Nat.le_trans HB5.out.size hg1
  have HB6 := Aside0.mk (below_step HB5.out hb)
  have Ra_6 := Aside0.mk (Ra_5.out.below hb)
  have Rb_6 := Aside0.mk (Rb_5.out.below hb)
  clear HB5 Ra_5 Rb_5
  have HO1 := Aside0.mk ho
  clear ho hb
  go_wp2_with fail
  refine (copied_calls b _ _ _ Rb_6.out LB).mono ?_
  rintro e w7 ⟨v, rfl, ho, hb⟩
  obtain ⟨g2, c2, rfl, hg2, hg2b⟩ := ho.form (by omega)
  have HO1b := Aside0.mk (HO1.out.below hb)
  clear HO1
  have hz2 : w.heap.size ≤ g2 := Nat.le_trans HB6.out.size hg2
  have HB7 := Aside0.mk (below_step HB6.out hb)
  have Ra_7 := Aside0.mk (Ra_6.out.below hb)
  have Rb_7 := Aside0.mk (Rb_6.out.below hb)
  clear HB6 Ra_6 Rb_6
  have HO2 := Aside0.mk ho
  clear ho hb
  have hne : ¬ g1 = g2 := by omega
  have hne' : ¬ g2 = g1 := by omega
  obtain ⟨hc1, hf1⟩ := HO1b.out.cell q hq1
  obtain ⟨hc2, hf2⟩ := HO2.out.cell q hq2
  have hw1 : IntKind.u8.wrap (1 - nth a q) = 1 - nth a q := by have h := FA.out; rw [← FQ.out] at h; exact wraps_u8 _ h.1 (by omega)
  have hw2 : IntKind.u8.wrap (1 - nth b q) = 1 - nth b q := by have h := FB.out; rw [← LE.out, ← FQ.out] at h; exact wraps_u8 _ h.1 (by omega)
  skip
  go_wp2_with fail
  have X1 : 0 ≤ 1 - nth a q ∧ 1 - nth a q ≤ 255 := by have h := FA.out; rw [← FQ.out] at h; omega
  have X2 : 0 ≤ 1 - nth b q ∧ 1 - nth b q ≤ 255 := by have h := FB.out; rw [← LE.out, ← FQ.out] at h; omega
  have hr1 := ((HO1b.out.put q X1.1 X1.2).other hne (k := q) (.int .u8 (1 - nth b q))).drew.reads_at
  have hr2 := ((HO2.out.other hne' (k := q) (.int .u8 (1 - nth a q))).put q X2.1 X2.2).drew.reads_at
  have e1 : a.set q (1 - nth a q) = flip a := by rw [FQ.out]; rfl
  have e2 : b.set q (1 - nth b q) = flip b := by rw [FQ.out, LE.out]; rfl
  rw [e1] at hr1
  rw [e2] at hr2
  have LL := less_calls (flip a) (flip b) _ _ c1 c2 _ hr1 hr2
  rw [flip_length, flip_length] at LL
  have LL := Aside0.mk LL
  have HB8 : Aside0 (Below w.heap.size w ((w7.setCell ⟨g1, q, none⟩ (.int .u8 (1 - nth a q))).setCell ⟨g2, q, none⟩ (.int .u8 (1 - nth b q))).drew) := ⟨((HB7.out.setCell hz1 _).setCell hz2 _).drew⟩
  clear hr1 hr2 e1 e2 X1 X2
  go_region
  clear hc1 hf1 hc2 hf2 hw1 hw2 HO1b HO2 Ra_7 Rb_7 HB7
  go_wp2_with fail
  refine (LL.out).mono ?_
  rintro e w8 ⟨rfl, hb⟩
  rw [T.out]
  rw [HE.out]
  rw [C3.out]
  have HB9 := Aside0.mk (below_step HB8.out hb)
  clear HB8
  clear hb
  go_wp2_with fail
  refine (awake_calls _).mono ?_
  rintro e w9 ⟨rfl, hb⟩
  have HBz := Aside0.mk (below_step HB9.out hb)
  clear hb
  go_wp2_with fail
  go_ret
  exact ⟨rfl, HBz.out⟩
set_option maxRecDepth 100000 in
set_option maxHeartbeats 8000000 in
theorem one_tfft (w : World) (a : List Int) (A : Option Addr) (ca : Nat) (ra : Rd w A a) (b : List Int) (B : Option Addr) (cb : Nat) (rb : Rd w B b) (h1 : isV a = true) (h2 : isV b = true) (h0 : a.length = b.length) (h3 : sureB a = true) (h4 : sureB b = true) (hL : lessB a b = true) (hM : lessB b a = false) (hS : sameB a b = false) (hB : signedB a b = false) (hA : signedB b a = true) :
    Calls Try.prog 7 #[.slice A a.length ca, .slice B b.length cb] w fun e w' => e = .returned (.bool true) ∧ Below w.heap.size w w' := by
  have Ra := Aside0.mk ra
  have Rb := Aside0.mk rb
  clear ra rb
  have hn1 := (isV_pos h1).1
  have h64 := (isV_pos h1).2.1
  have k1 : knownB a = true := by simpa [sureB, h1] using h3
  have k2 : knownB b = true := by simpa [sureB, h2] using h4
  have p := pairB_intro h1 h2 h0
  have p' := one_swap p
  have bo : bothB a b = true := by simp [bothB, k1, k2]
  have C1 := Aside0.mk (compE_ok p)
  have C2 := Aside0.mk (compE_ok p')
  have T := Aside0.mk (one_turned p bo Ra.out.b Rb.out.b)
  have C3 := Aside0.mk (compE_ok (pairB_intro (flip_isV h1 k1 Ra.out.b) (flip_isV h2 k2 Rb.out.b) ((flip_length a).trans (h0.trans (flip_length b).symm))))
  have FA := Aside0.mk (flip_range k1 Ra.out.b)
  have FB := Aside0.mk (flip_range k2 Rb.out.b)
  have HL := Aside0.mk hL
  have HM := Aside0.mk hM
  have HS := Aside0.mk hS
  have HE := Aside0.mk hB
  have HA := Aside0.mk hA
  clear hL hM hS hB hA p p' bo k1 k2
  have H1 := Aside0.mk h1
  clear h1
  have H2 := Aside0.mk h2
  clear h2
  have H3 := Aside0.mk h3
  clear h3
  have H4 := Aside0.mk h4
  clear h4
  have hlb : ((a.length : Int) != (b.length : Int)) = false := by simp [h0]
  have LE := Aside0.mk h0
  obtain ⟨q, hq⟩ : ∃ q : Nat, q = a.length - 1 := ⟨_, rfl⟩
  have hqi : (a.length : Int) - 1 = q := by omega
  have hqj : (b.length : Int) - 1 = q := by omega
  have hq1 : q < a.length := by omega
  have hq2 : q < b.length := by omega
  have FQ := Aside0.mk hq
  clear hq
  have LA : a.length ≤ 1000 := by omega
  have LB : b.length ≤ 1000 := by omega
  have h64b : b.length ≤ 64 := by omega
  clear h0
  have HB0 := Aside0.mk (Below.refl w.heap.size w)
  go_enter Try.func7, Try.ntmps7
  go_wp2_with fail
  refine (refIs_calls _ _ _ _ Ra.out).mono ?_
  rintro e wq ⟨rfl, rfl⟩
  rw [H1.out]
  go_wp2_with fail
  refine (refIs_calls _ _ _ _ Rb.out).mono ?_
  rintro e wq ⟨rfl, rfl⟩
  rw [H2.out]
  go_wp2_with fail
  refine (sure_calls _ _ _ _ Ra.out).mono ?_
  rintro e wq ⟨rfl, rfl⟩
  rw [H3.out]
  go_wp2_with fail
  refine (sure_calls _ _ _ _ Rb.out).mono ?_
  rintro e wq ⟨rfl, rfl⟩
  rw [H4.out]
  go_wp2_with fail
  refine (less_calls a b _ _ _ _ _ Ra.out Rb.out).mono ?_
  rintro e w1 ⟨rfl, hb⟩
  rw [HL.out]
  rw [C1.out]
  have HB1 := Aside0.mk (below_step HB0.out hb)
  have Ra_1 := Aside0.mk (Ra.out.below hb)
  have Rb_1 := Aside0.mk (Rb.out.below hb)
  clear HB0 Ra Rb
  clear hb
  go_wp2_with fail
  refine (less_calls b a _ _ _ _ _ Rb_1.out Ra_1.out).mono ?_
  rintro e w2 ⟨rfl, hb⟩
  rw [HM.out]
  rw [C2.out]
  have HB2 := Aside0.mk (below_step HB1.out hb)
  have Ra_2 := Aside0.mk (Ra_1.out.below hb)
  have Rb_2 := Aside0.mk (Rb_1.out.below hb)
  clear HB1 Ra_1 Rb_1
  clear hb
  go_wp2_with fail
  refine (same_calls a b _ _ _ _ _ Ra_2.out Rb_2.out).mono ?_
  rintro e w3 ⟨rfl, hb⟩
  rw [HS.out]
  rw [C1.out]
  have HB3 := Aside0.mk (below_step HB2.out hb)
  have Ra_3 := Aside0.mk (Ra_2.out.below hb)
  have Rb_3 := Aside0.mk (Rb_2.out.below hb)
  clear HB2 Ra_2 Rb_2
  clear hb
  go_wp2_with fail
  refine (signed_calls a b _ _ _ _ _ Ra_3.out Rb_3.out).mono ?_
  rintro e w4 ⟨rfl, hb⟩
  rw [HE.out]
  rw [C1.out]
  have HB4 := Aside0.mk (below_step HB3.out hb)
  have Ra_4 := Aside0.mk (Ra_3.out.below hb)
  have Rb_4 := Aside0.mk (Rb_3.out.below hb)
  clear HB3 Ra_3 Rb_3
  clear hb
  go_wp2_with fail
  refine (signed_calls b a _ _ _ _ _ Rb_4.out Ra_4.out).mono ?_
  rintro e w5 ⟨rfl, hb⟩
  rw [HA.out]
  rw [C2.out]
  have HB5 := Aside0.mk (below_step HB4.out hb)
  have Ra_5 := Aside0.mk (Ra_4.out.below hb)
  have Rb_5 := Aside0.mk (Rb_4.out.below hb)
  clear HB4 Ra_4 Rb_4
  clear hb
  go_wp2_with fail
  refine (copied_calls a _ _ _ Ra_5.out LA).mono ?_
  rintro e w6 ⟨v, rfl, ho, hb⟩
  obtain ⟨g1, c1, rfl, hg1, hg1b⟩ := ho.form (by omega)
  have hz1 : w.heap.size ≤ g1 := Nat.le_trans HB5.out.size hg1
  have HB6 := Aside0.mk (below_step HB5.out hb)
  have Ra_6 := Aside0.mk (Ra_5.out.below hb)
  have Rb_6 := Aside0.mk (Rb_5.out.below hb)
  clear HB5 Ra_5 Rb_5
  have HO1 := Aside0.mk ho
  clear ho hb
  go_wp2_with fail
  refine (copied_calls b _ _ _ Rb_6.out LB).mono ?_
  rintro e w7 ⟨v, rfl, ho, hb⟩
  obtain ⟨g2, c2, rfl, hg2, hg2b⟩ := ho.form (by omega)
  have HO1b := Aside0.mk (HO1.out.below hb)
  clear HO1
  have hz2 : w.heap.size ≤ g2 := Nat.le_trans HB6.out.size hg2
  have HB7 := Aside0.mk (below_step HB6.out hb)
  have Ra_7 := Aside0.mk (Ra_6.out.below hb)
  have Rb_7 := Aside0.mk (Rb_6.out.below hb)
  clear HB6 Ra_6 Rb_6
  have HO2 := Aside0.mk ho
  clear ho hb
  have hne : ¬ g1 = g2 := by omega
  have hne' : ¬ g2 = g1 := by omega
  obtain ⟨hc1, hf1⟩ := HO1b.out.cell q hq1
  obtain ⟨hc2, hf2⟩ := HO2.out.cell q hq2
  have hw1 : IntKind.u8.wrap (1 - nth a q) = 1 - nth a q := by have h := FA.out; rw [← FQ.out] at h; exact wraps_u8 _ h.1 (by omega)
  have hw2 : IntKind.u8.wrap (1 - nth b q) = 1 - nth b q := by have h := FB.out; rw [← LE.out, ← FQ.out] at h; exact wraps_u8 _ h.1 (by omega)
  skip
  go_wp2_with fail
  have X1 : 0 ≤ 1 - nth a q ∧ 1 - nth a q ≤ 255 := by have h := FA.out; rw [← FQ.out] at h; omega
  have X2 : 0 ≤ 1 - nth b q ∧ 1 - nth b q ≤ 255 := by have h := FB.out; rw [← LE.out, ← FQ.out] at h; omega
  have hr1 := ((HO1b.out.put q X1.1 X1.2).other hne (k := q) (.int .u8 (1 - nth b q))).drew.reads_at
  have hr2 := ((HO2.out.other hne' (k := q) (.int .u8 (1 - nth a q))).put q X2.1 X2.2).drew.reads_at
  have e1 : a.set q (1 - nth a q) = flip a := by rw [FQ.out]; rfl
  have e2 : b.set q (1 - nth b q) = flip b := by rw [FQ.out, LE.out]; rfl
  rw [e1] at hr1
  rw [e2] at hr2
  have LL := less_calls (flip a) (flip b) _ _ c1 c2 _ hr1 hr2
  rw [flip_length, flip_length] at LL
  have LL := Aside0.mk LL
  have HB8 : Aside0 (Below w.heap.size w ((w7.setCell ⟨g1, q, none⟩ (.int .u8 (1 - nth a q))).setCell ⟨g2, q, none⟩ (.int .u8 (1 - nth b q))).drew) := ⟨((HB7.out.setCell hz1 _).setCell hz2 _).drew⟩
  clear hr1 hr2 e1 e2 X1 X2
  go_region
  clear hc1 hf1 hc2 hf2 hw1 hw2 HO1b HO2 Ra_7 Rb_7 HB7
  go_wp2_with fail
  refine (LL.out).mono ?_
  rintro e w8 ⟨rfl, hb⟩
  rw [T.out]
  rw [HE.out]
  rw [C3.out]
  have HB9 := Aside0.mk (below_step HB8.out hb)
  clear HB8
  clear hb
  go_wp2_with fail
  refine (awake_calls _).mono ?_
  rintro e w9 ⟨rfl, hb⟩
  have HBz := Aside0.mk (below_step HB9.out hb)
  clear hb
  go_wp2_with fail
  go_ret
  exact ⟨rfl, HBz.out⟩
set_option maxRecDepth 100000 in
set_option maxHeartbeats 8000000 in
theorem one_fttf (w : World) (a : List Int) (A : Option Addr) (ca : Nat) (ra : Rd w A a) (b : List Int) (B : Option Addr) (cb : Nat) (rb : Rd w B b) (h1 : isV a = true) (h2 : isV b = true) (h0 : a.length = b.length) (h3 : sureB a = true) (h4 : sureB b = true) (hL : lessB a b = false) (hM : lessB b a = true) (hS : sameB a b = false) (hB : signedB a b = true) (hA : signedB b a = false) :
    Calls Try.prog 7 #[.slice A a.length ca, .slice B b.length cb] w fun e w' => e = .returned (.bool true) ∧ Below w.heap.size w w' := by
  have Ra := Aside0.mk ra
  have Rb := Aside0.mk rb
  clear ra rb
  have hn1 := (isV_pos h1).1
  have h64 := (isV_pos h1).2.1
  have k1 : knownB a = true := by simpa [sureB, h1] using h3
  have k2 : knownB b = true := by simpa [sureB, h2] using h4
  have p := pairB_intro h1 h2 h0
  have p' := one_swap p
  have bo : bothB a b = true := by simp [bothB, k1, k2]
  have C1 := Aside0.mk (compE_ok p)
  have C2 := Aside0.mk (compE_ok p')
  have T := Aside0.mk (one_turned p bo Ra.out.b Rb.out.b)
  have C3 := Aside0.mk (compE_ok (pairB_intro (flip_isV h1 k1 Ra.out.b) (flip_isV h2 k2 Rb.out.b) ((flip_length a).trans (h0.trans (flip_length b).symm))))
  have FA := Aside0.mk (flip_range k1 Ra.out.b)
  have FB := Aside0.mk (flip_range k2 Rb.out.b)
  have HL := Aside0.mk hL
  have HM := Aside0.mk hM
  have HS := Aside0.mk hS
  have HE := Aside0.mk hB
  have HA := Aside0.mk hA
  clear hL hM hS hB hA p p' bo k1 k2
  have H1 := Aside0.mk h1
  clear h1
  have H2 := Aside0.mk h2
  clear h2
  have H3 := Aside0.mk h3
  clear h3
  have H4 := Aside0.mk h4
  clear h4
  have hlb : ((a.length : Int) != (b.length : Int)) = false := by simp [h0]
  have LE := Aside0.mk h0
  obtain ⟨q, hq⟩ : ∃ q : Nat, q = a.length - 1 := ⟨_, rfl⟩
  have hqi : (a.length : Int) - 1 = q := by omega
  have hqj : (b.length : Int) - 1 = q := by omega
  have hq1 : q < a.length := by omega
  have hq2 : q < b.length := by omega
  have FQ := Aside0.mk hq
  clear hq
  have LA : a.length ≤ 1000 := by omega
  have LB : b.length ≤ 1000 := by omega
  have h64b : b.length ≤ 64 := by omega
  clear h0
  have HB0 := Aside0.mk (Below.refl w.heap.size w)
  go_enter Try.func7, Try.ntmps7
  go_wp2_with fail
  refine (refIs_calls _ _ _ _ Ra.out).mono ?_
  rintro e wq ⟨rfl, rfl⟩
  rw [H1.out]
  go_wp2_with fail
  refine (refIs_calls _ _ _ _ Rb.out).mono ?_
  rintro e wq ⟨rfl, rfl⟩
  rw [H2.out]
  go_wp2_with fail
  refine (sure_calls _ _ _ _ Ra.out).mono ?_
  rintro e wq ⟨rfl, rfl⟩
  rw [H3.out]
  go_wp2_with fail
  refine (sure_calls _ _ _ _ Rb.out).mono ?_
  rintro e wq ⟨rfl, rfl⟩
  rw [H4.out]
  go_wp2_with fail
  refine (less_calls a b _ _ _ _ _ Ra.out Rb.out).mono ?_
  rintro e w1 ⟨rfl, hb⟩
  rw [HL.out]
  rw [C1.out]
  have HB1 := Aside0.mk (below_step HB0.out hb)
  have Ra_1 := Aside0.mk (Ra.out.below hb)
  have Rb_1 := Aside0.mk (Rb.out.below hb)
  clear HB0 Ra Rb
  clear hb
  go_wp2_with fail
  refine (less_calls b a _ _ _ _ _ Rb_1.out Ra_1.out).mono ?_
  rintro e w2 ⟨rfl, hb⟩
  rw [HM.out]
  rw [C2.out]
  have HB2 := Aside0.mk (below_step HB1.out hb)
  have Ra_2 := Aside0.mk (Ra_1.out.below hb)
  have Rb_2 := Aside0.mk (Rb_1.out.below hb)
  clear HB1 Ra_1 Rb_1
  clear hb
  go_wp2_with fail
  refine (same_calls a b _ _ _ _ _ Ra_2.out Rb_2.out).mono ?_
  rintro e w3 ⟨rfl, hb⟩
  rw [HS.out]
  rw [C1.out]
  have HB3 := Aside0.mk (below_step HB2.out hb)
  have Ra_3 := Aside0.mk (Ra_2.out.below hb)
  have Rb_3 := Aside0.mk (Rb_2.out.below hb)
  clear HB2 Ra_2 Rb_2
  clear hb
  go_wp2_with fail
  refine (signed_calls a b _ _ _ _ _ Ra_3.out Rb_3.out).mono ?_
  rintro e w4 ⟨rfl, hb⟩
  rw [HE.out]
  rw [C1.out]
  have HB4 := Aside0.mk (below_step HB3.out hb)
  have Ra_4 := Aside0.mk (Ra_3.out.below hb)
  have Rb_4 := Aside0.mk (Rb_3.out.below hb)
  clear HB3 Ra_3 Rb_3
  clear hb
  go_wp2_with fail
  refine (signed_calls b a _ _ _ _ _ Rb_4.out Ra_4.out).mono ?_
  rintro e w5 ⟨rfl, hb⟩
  rw [HA.out]
  rw [C2.out]
  have HB5 := Aside0.mk (below_step HB4.out hb)
  have Ra_5 := Aside0.mk (Ra_4.out.below hb)
  have Rb_5 := Aside0.mk (Rb_4.out.below hb)
  clear HB4 Ra_4 Rb_4
  clear hb
  go_wp2_with fail
  refine (copied_calls a _ _ _ Ra_5.out LA).mono ?_
  rintro e w6 ⟨v, rfl, ho, hb⟩
  obtain ⟨g1, c1, rfl, hg1, hg1b⟩ := ho.form (by omega)
  have hz1 : w.heap.size ≤ g1 := Nat.le_trans HB5.out.size hg1
  have HB6 := Aside0.mk (below_step HB5.out hb)
  have Ra_6 := Aside0.mk (Ra_5.out.below hb)
  have Rb_6 := Aside0.mk (Rb_5.out.below hb)
  clear HB5 Ra_5 Rb_5
  have HO1 := Aside0.mk ho
  clear ho hb
  go_wp2_with fail
  refine (copied_calls b _ _ _ Rb_6.out LB).mono ?_
  rintro e w7 ⟨v, rfl, ho, hb⟩
  obtain ⟨g2, c2, rfl, hg2, hg2b⟩ := ho.form (by omega)
  have HO1b := Aside0.mk (HO1.out.below hb)
  clear HO1
  have hz2 : w.heap.size ≤ g2 := Nat.le_trans HB6.out.size hg2
  have HB7 := Aside0.mk (below_step HB6.out hb)
  have Ra_7 := Aside0.mk (Ra_6.out.below hb)
  have Rb_7 := Aside0.mk (Rb_6.out.below hb)
  clear HB6 Ra_6 Rb_6
  have HO2 := Aside0.mk ho
  clear ho hb
  have hne : ¬ g1 = g2 := by omega
  have hne' : ¬ g2 = g1 := by omega
  obtain ⟨hc1, hf1⟩ := HO1b.out.cell q hq1
  obtain ⟨hc2, hf2⟩ := HO2.out.cell q hq2
  have hw1 : IntKind.u8.wrap (1 - nth a q) = 1 - nth a q := by have h := FA.out; rw [← FQ.out] at h; exact wraps_u8 _ h.1 (by omega)
  have hw2 : IntKind.u8.wrap (1 - nth b q) = 1 - nth b q := by have h := FB.out; rw [← LE.out, ← FQ.out] at h; exact wraps_u8 _ h.1 (by omega)
  skip
  go_wp2_with fail
  have X1 : 0 ≤ 1 - nth a q ∧ 1 - nth a q ≤ 255 := by have h := FA.out; rw [← FQ.out] at h; omega
  have X2 : 0 ≤ 1 - nth b q ∧ 1 - nth b q ≤ 255 := by have h := FB.out; rw [← LE.out, ← FQ.out] at h; omega
  have hr1 := ((HO1b.out.put q X1.1 X1.2).other hne (k := q) (.int .u8 (1 - nth b q))).drew.reads_at
  have hr2 := ((HO2.out.other hne' (k := q) (.int .u8 (1 - nth a q))).put q X2.1 X2.2).drew.reads_at
  have e1 : a.set q (1 - nth a q) = flip a := by rw [FQ.out]; rfl
  have e2 : b.set q (1 - nth b q) = flip b := by rw [FQ.out, LE.out]; rfl
  rw [e1] at hr1
  rw [e2] at hr2
  have LL := less_calls (flip a) (flip b) _ _ c1 c2 _ hr1 hr2
  rw [flip_length, flip_length] at LL
  have LL := Aside0.mk LL
  have HB8 : Aside0 (Below w.heap.size w ((w7.setCell ⟨g1, q, none⟩ (.int .u8 (1 - nth a q))).setCell ⟨g2, q, none⟩ (.int .u8 (1 - nth b q))).drew) := ⟨((HB7.out.setCell hz1 _).setCell hz2 _).drew⟩
  clear hr1 hr2 e1 e2 X1 X2
  go_region
  clear hc1 hf1 hc2 hf2 hw1 hw2 HO1b HO2 Ra_7 Rb_7 HB7
  go_wp2_with fail
  refine (LL.out).mono ?_
  rintro e w8 ⟨rfl, hb⟩
  rw [T.out]
  rw [HE.out]
  rw [C3.out]
  have HB9 := Aside0.mk (below_step HB8.out hb)
  clear HB8
  clear hb
  go_wp2_with fail
  refine (awake_calls _).mono ?_
  rintro e w9 ⟨rfl, hb⟩
  have HBz := Aside0.mk (below_step HB9.out hb)
  clear hb
  go_wp2_with fail
  go_ret
  exact ⟨rfl, HBz.out⟩
set_option maxRecDepth 100000 in
set_option maxHeartbeats 8000000 in
theorem one_ftft (w : World) (a : List Int) (A : Option Addr) (ca : Nat) (ra : Rd w A a) (b : List Int) (B : Option Addr) (cb : Nat) (rb : Rd w B b) (h1 : isV a = true) (h2 : isV b = true) (h0 : a.length = b.length) (h3 : sureB a = true) (h4 : sureB b = true) (hL : lessB a b = false) (hM : lessB b a = true) (hS : sameB a b = false) (hB : signedB a b = false) (hA : signedB b a = true) :
    Calls Try.prog 7 #[.slice A a.length ca, .slice B b.length cb] w fun e w' => e = .returned (.bool true) ∧ Below w.heap.size w w' := by
  have Ra := Aside0.mk ra
  have Rb := Aside0.mk rb
  clear ra rb
  have hn1 := (isV_pos h1).1
  have h64 := (isV_pos h1).2.1
  have k1 : knownB a = true := by simpa [sureB, h1] using h3
  have k2 : knownB b = true := by simpa [sureB, h2] using h4
  have p := pairB_intro h1 h2 h0
  have p' := one_swap p
  have bo : bothB a b = true := by simp [bothB, k1, k2]
  have C1 := Aside0.mk (compE_ok p)
  have C2 := Aside0.mk (compE_ok p')
  have T := Aside0.mk (one_turned p bo Ra.out.b Rb.out.b)
  have C3 := Aside0.mk (compE_ok (pairB_intro (flip_isV h1 k1 Ra.out.b) (flip_isV h2 k2 Rb.out.b) ((flip_length a).trans (h0.trans (flip_length b).symm))))
  have FA := Aside0.mk (flip_range k1 Ra.out.b)
  have FB := Aside0.mk (flip_range k2 Rb.out.b)
  have HL := Aside0.mk hL
  have HM := Aside0.mk hM
  have HS := Aside0.mk hS
  have HE := Aside0.mk hB
  have HA := Aside0.mk hA
  clear hL hM hS hB hA p p' bo k1 k2
  have H1 := Aside0.mk h1
  clear h1
  have H2 := Aside0.mk h2
  clear h2
  have H3 := Aside0.mk h3
  clear h3
  have H4 := Aside0.mk h4
  clear h4
  have hlb : ((a.length : Int) != (b.length : Int)) = false := by simp [h0]
  have LE := Aside0.mk h0
  obtain ⟨q, hq⟩ : ∃ q : Nat, q = a.length - 1 := ⟨_, rfl⟩
  have hqi : (a.length : Int) - 1 = q := by omega
  have hqj : (b.length : Int) - 1 = q := by omega
  have hq1 : q < a.length := by omega
  have hq2 : q < b.length := by omega
  have FQ := Aside0.mk hq
  clear hq
  have LA : a.length ≤ 1000 := by omega
  have LB : b.length ≤ 1000 := by omega
  have h64b : b.length ≤ 64 := by omega
  clear h0
  have HB0 := Aside0.mk (Below.refl w.heap.size w)
  go_enter Try.func7, Try.ntmps7
  go_wp2_with fail
  refine (refIs_calls _ _ _ _ Ra.out).mono ?_
  rintro e wq ⟨rfl, rfl⟩
  rw [H1.out]
  go_wp2_with fail
  refine (refIs_calls _ _ _ _ Rb.out).mono ?_
  rintro e wq ⟨rfl, rfl⟩
  rw [H2.out]
  go_wp2_with fail
  refine (sure_calls _ _ _ _ Ra.out).mono ?_
  rintro e wq ⟨rfl, rfl⟩
  rw [H3.out]
  go_wp2_with fail
  refine (sure_calls _ _ _ _ Rb.out).mono ?_
  rintro e wq ⟨rfl, rfl⟩
  rw [H4.out]
  go_wp2_with fail
  refine (less_calls a b _ _ _ _ _ Ra.out Rb.out).mono ?_
  rintro e w1 ⟨rfl, hb⟩
  rw [HL.out]
  rw [C1.out]
  have HB1 := Aside0.mk (below_step HB0.out hb)
  have Ra_1 := Aside0.mk (Ra.out.below hb)
  have Rb_1 := Aside0.mk (Rb.out.below hb)
  clear HB0 Ra Rb
  clear hb
  go_wp2_with fail
  refine (less_calls b a _ _ _ _ _ Rb_1.out Ra_1.out).mono ?_
  rintro e w2 ⟨rfl, hb⟩
  rw [HM.out]
  rw [C2.out]
  have HB2 := Aside0.mk (below_step HB1.out hb)
  have Ra_2 := Aside0.mk (Ra_1.out.below hb)
  have Rb_2 := Aside0.mk (Rb_1.out.below hb)
  clear HB1 Ra_1 Rb_1
  clear hb
  go_wp2_with fail
  refine (same_calls a b _ _ _ _ _ Ra_2.out Rb_2.out).mono ?_
  rintro e w3 ⟨rfl, hb⟩
  rw [HS.out]
  rw [C1.out]
  have HB3 := Aside0.mk (below_step HB2.out hb)
  have Ra_3 := Aside0.mk (Ra_2.out.below hb)
  have Rb_3 := Aside0.mk (Rb_2.out.below hb)
  clear HB2 Ra_2 Rb_2
  clear hb
  go_wp2_with fail
  refine (signed_calls a b _ _ _ _ _ Ra_3.out Rb_3.out).mono ?_
  rintro e w4 ⟨rfl, hb⟩
  rw [HE.out]
  rw [C1.out]
  have HB4 := Aside0.mk (below_step HB3.out hb)
  have Ra_4 := Aside0.mk (Ra_3.out.below hb)
  have Rb_4 := Aside0.mk (Rb_3.out.below hb)
  clear HB3 Ra_3 Rb_3
  clear hb
  go_wp2_with fail
  refine (signed_calls b a _ _ _ _ _ Rb_4.out Ra_4.out).mono ?_
  rintro e w5 ⟨rfl, hb⟩
  rw [HA.out]
  rw [C2.out]
  have HB5 := Aside0.mk (below_step HB4.out hb)
  have Ra_5 := Aside0.mk (Ra_4.out.below hb)
  have Rb_5 := Aside0.mk (Rb_4.out.below hb)
  clear HB4 Ra_4 Rb_4
  clear hb
  go_wp2_with fail
  refine (copied_calls a _ _ _ Ra_5.out LA).mono ?_
  rintro e w6 ⟨v, rfl, ho, hb⟩
  obtain ⟨g1, c1, rfl, hg1, hg1b⟩ := ho.form (by omega)
  have hz1 : w.heap.size ≤ g1 := Nat.le_trans HB5.out.size hg1
  have HB6 := Aside0.mk (below_step HB5.out hb)
  have Ra_6 := Aside0.mk (Ra_5.out.below hb)
  have Rb_6 := Aside0.mk (Rb_5.out.below hb)
  clear HB5 Ra_5 Rb_5
  have HO1 := Aside0.mk ho
  clear ho hb
  go_wp2_with fail
  refine (copied_calls b _ _ _ Rb_6.out LB).mono ?_
  rintro e w7 ⟨v, rfl, ho, hb⟩
  obtain ⟨g2, c2, rfl, hg2, hg2b⟩ := ho.form (by omega)
  have HO1b := Aside0.mk (HO1.out.below hb)
  clear HO1
  have hz2 : w.heap.size ≤ g2 := Nat.le_trans HB6.out.size hg2
  have HB7 := Aside0.mk (below_step HB6.out hb)
  have Ra_7 := Aside0.mk (Ra_6.out.below hb)
  have Rb_7 := Aside0.mk (Rb_6.out.below hb)
  clear HB6 Ra_6 Rb_6
  have HO2 := Aside0.mk ho
  clear ho hb
  have hne : ¬ g1 = g2 := by omega
  have hne' : ¬ g2 = g1 := by omega
  obtain ⟨hc1, hf1⟩ := HO1b.out.cell q hq1
  obtain ⟨hc2, hf2⟩ := HO2.out.cell q hq2
  have hw1 : IntKind.u8.wrap (1 - nth a q) = 1 - nth a q := by have h := FA.out; rw [← FQ.out] at h; exact wraps_u8 _ h.1 (by omega)
  have hw2 : IntKind.u8.wrap (1 - nth b q) = 1 - nth b q := by have h := FB.out; rw [← LE.out, ← FQ.out] at h; exact wraps_u8 _ h.1 (by omega)
  skip
  go_wp2_with fail
  have X1 : 0 ≤ 1 - nth a q ∧ 1 - nth a q ≤ 255 := by have h := FA.out; rw [← FQ.out] at h; omega
  have X2 : 0 ≤ 1 - nth b q ∧ 1 - nth b q ≤ 255 := by have h := FB.out; rw [← LE.out, ← FQ.out] at h; omega
  have hr1 := ((HO1b.out.put q X1.1 X1.2).other hne (k := q) (.int .u8 (1 - nth b q))).drew.reads_at
  have hr2 := ((HO2.out.other hne' (k := q) (.int .u8 (1 - nth a q))).put q X2.1 X2.2).drew.reads_at
  have e1 : a.set q (1 - nth a q) = flip a := by rw [FQ.out]; rfl
  have e2 : b.set q (1 - nth b q) = flip b := by rw [FQ.out, LE.out]; rfl
  rw [e1] at hr1
  rw [e2] at hr2
  have LL := less_calls (flip a) (flip b) _ _ c1 c2 _ hr1 hr2
  rw [flip_length, flip_length] at LL
  have LL := Aside0.mk LL
  have HB8 : Aside0 (Below w.heap.size w ((w7.setCell ⟨g1, q, none⟩ (.int .u8 (1 - nth a q))).setCell ⟨g2, q, none⟩ (.int .u8 (1 - nth b q))).drew) := ⟨((HB7.out.setCell hz1 _).setCell hz2 _).drew⟩
  clear hr1 hr2 e1 e2 X1 X2
  go_region
  clear hc1 hf1 hc2 hf2 hw1 hw2 HO1b HO2 Ra_7 Rb_7 HB7
  go_wp2_with fail
  refine (LL.out).mono ?_
  rintro e w8 ⟨rfl, hb⟩
  rw [T.out]
  rw [HE.out]
  rw [C3.out]
  have HB9 := Aside0.mk (below_step HB8.out hb)
  clear HB8
  clear hb
  go_wp2_with fail
  refine (awake_calls _).mono ?_
  rintro e w9 ⟨rfl, hb⟩
  have HBz := Aside0.mk (below_step HB9.out hb)
  clear hb
  go_wp2_with fail
  go_ret
  exact ⟨rfl, HBz.out⟩
set_option maxRecDepth 100000 in
set_option maxHeartbeats 8000000 in
theorem one_same' (w : World) (a : List Int) (A : Option Addr) (ca : Nat) (ra : Rd w A a) (b : List Int) (B : Option Addr) (cb : Nat) (rb : Rd w B b) (h1 : isV a = true) (h2 : isV b = true) (h0 : a.length = b.length) (h3 : sureB a = true) (h4 : sureB b = true) (hL : lessB a b = false) (hM : lessB b a = false) (hS : sameB a b = true) (hB : signedB a b = false) (hA : signedB b a = false) :
    Calls Try.prog 7 #[.slice A a.length ca, .slice B b.length cb] w fun e w' => e = .returned (.bool true) ∧ Below w.heap.size w w' := by
  have Ra := Aside0.mk ra
  have Rb := Aside0.mk rb
  clear ra rb
  have hn1 := (isV_pos h1).1
  have h64 := (isV_pos h1).2.1
  have k1 : knownB a = true := by simpa [sureB, h1] using h3
  have k2 : knownB b = true := by simpa [sureB, h2] using h4
  have p := pairB_intro h1 h2 h0
  have p' := one_swap p
  have bo : bothB a b = true := by simp [bothB, k1, k2]
  have C1 := Aside0.mk (compE_ok p)
  have C2 := Aside0.mk (compE_ok p')
  have T := Aside0.mk (one_turned p bo Ra.out.b Rb.out.b)
  have C3 := Aside0.mk (compE_ok (pairB_intro (flip_isV h1 k1 Ra.out.b) (flip_isV h2 k2 Rb.out.b) ((flip_length a).trans (h0.trans (flip_length b).symm))))
  have FA := Aside0.mk (flip_range k1 Ra.out.b)
  have FB := Aside0.mk (flip_range k2 Rb.out.b)
  have HL := Aside0.mk hL
  have HM := Aside0.mk hM
  have HS := Aside0.mk hS
  have HE := Aside0.mk hB
  have HA := Aside0.mk hA
  clear hL hM hS hB hA p p' bo k1 k2
  have H1 := Aside0.mk h1
  clear h1
  have H2 := Aside0.mk h2
  clear h2
  have H3 := Aside0.mk h3
  clear h3
  have H4 := Aside0.mk h4
  clear h4
  have hlb : ((a.length : Int) != (b.length : Int)) = false := by simp [h0]
  have LE := Aside0.mk h0
  obtain ⟨q, hq⟩ : ∃ q : Nat, q = a.length - 1 := ⟨_, rfl⟩
  have hqi : (a.length : Int) - 1 = q := by omega
  have hqj : (b.length : Int) - 1 = q := by omega
  have hq1 : q < a.length := by omega
  have hq2 : q < b.length := by omega
  have FQ := Aside0.mk hq
  clear hq
  have LA : a.length ≤ 1000 := by omega
  have LB : b.length ≤ 1000 := by omega
  have h64b : b.length ≤ 64 := by omega
  clear h0
  have HB0 := Aside0.mk (Below.refl w.heap.size w)
  go_enter Try.func7, Try.ntmps7
  go_wp2_with fail
  refine (refIs_calls _ _ _ _ Ra.out).mono ?_
  rintro e wq ⟨rfl, rfl⟩
  rw [H1.out]
  go_wp2_with fail
  refine (refIs_calls _ _ _ _ Rb.out).mono ?_
  rintro e wq ⟨rfl, rfl⟩
  rw [H2.out]
  go_wp2_with fail
  refine (sure_calls _ _ _ _ Ra.out).mono ?_
  rintro e wq ⟨rfl, rfl⟩
  rw [H3.out]
  go_wp2_with fail
  refine (sure_calls _ _ _ _ Rb.out).mono ?_
  rintro e wq ⟨rfl, rfl⟩
  rw [H4.out]
  go_wp2_with fail
  refine (less_calls a b _ _ _ _ _ Ra.out Rb.out).mono ?_
  rintro e w1 ⟨rfl, hb⟩
  rw [HL.out]
  rw [C1.out]
  have HB1 := Aside0.mk (below_step HB0.out hb)
  have Ra_1 := Aside0.mk (Ra.out.below hb)
  have Rb_1 := Aside0.mk (Rb.out.below hb)
  clear HB0 Ra Rb
  clear hb
  go_wp2_with fail
  refine (less_calls b a _ _ _ _ _ Rb_1.out Ra_1.out).mono ?_
  rintro e w2 ⟨rfl, hb⟩
  rw [HM.out]
  rw [C2.out]
  have HB2 := Aside0.mk (below_step HB1.out hb)
  have Ra_2 := Aside0.mk (Ra_1.out.below hb)
  have Rb_2 := Aside0.mk (Rb_1.out.below hb)
  clear HB1 Ra_1 Rb_1
  clear hb
  go_wp2_with fail
  refine (same_calls a b _ _ _ _ _ Ra_2.out Rb_2.out).mono ?_
  rintro e w3 ⟨rfl, hb⟩
  rw [HS.out]
  rw [C1.out]
  have HB3 := Aside0.mk (below_step HB2.out hb)
  have Ra_3 := Aside0.mk (Ra_2.out.below hb)
  have Rb_3 := Aside0.mk (Rb_2.out.below hb)
  clear HB2 Ra_2 Rb_2
  clear hb
  go_wp2_with fail
  refine (signed_calls a b _ _ _ _ _ Ra_3.out Rb_3.out).mono ?_
  rintro e w4 ⟨rfl, hb⟩
  rw [HE.out]
  rw [C1.out]
  have HB4 := Aside0.mk (below_step HB3.out hb)
  have Ra_4 := Aside0.mk (Ra_3.out.below hb)
  have Rb_4 := Aside0.mk (Rb_3.out.below hb)
  clear HB3 Ra_3 Rb_3
  clear hb
  go_wp2_with fail
  refine (signed_calls b a _ _ _ _ _ Rb_4.out Ra_4.out).mono ?_
  rintro e w5 ⟨rfl, hb⟩
  rw [HA.out]
  rw [C2.out]
  have HB5 := Aside0.mk (below_step HB4.out hb)
  have Ra_5 := Aside0.mk (Ra_4.out.below hb)
  have Rb_5 := Aside0.mk (Rb_4.out.below hb)
  clear HB4 Ra_4 Rb_4
  clear hb
  go_wp2_with fail
  refine (copied_calls a _ _ _ Ra_5.out LA).mono ?_
  rintro e w6 ⟨v, rfl, ho, hb⟩
  obtain ⟨g1, c1, rfl, hg1, hg1b⟩ := ho.form (by omega)
  have hz1 : w.heap.size ≤ g1 := Nat.le_trans HB5.out.size hg1
  have HB6 := Aside0.mk (below_step HB5.out hb)
  have Ra_6 := Aside0.mk (Ra_5.out.below hb)
  have Rb_6 := Aside0.mk (Rb_5.out.below hb)
  clear HB5 Ra_5 Rb_5
  have HO1 := Aside0.mk ho
  clear ho hb
  go_wp2_with fail
  refine (copied_calls b _ _ _ Rb_6.out LB).mono ?_
  rintro e w7 ⟨v, rfl, ho, hb⟩
  obtain ⟨g2, c2, rfl, hg2, hg2b⟩ := ho.form (by omega)
  have HO1b := Aside0.mk (HO1.out.below hb)
  clear HO1
  have hz2 : w.heap.size ≤ g2 := Nat.le_trans HB6.out.size hg2
  have HB7 := Aside0.mk (below_step HB6.out hb)
  have Ra_7 := Aside0.mk (Ra_6.out.below hb)
  have Rb_7 := Aside0.mk (Rb_6.out.below hb)
  clear HB6 Ra_6 Rb_6
  have HO2 := Aside0.mk ho
  clear ho hb
  have hne : ¬ g1 = g2 := by omega
  have hne' : ¬ g2 = g1 := by omega
  obtain ⟨hc1, hf1⟩ := HO1b.out.cell q hq1
  obtain ⟨hc2, hf2⟩ := HO2.out.cell q hq2
  have hw1 : IntKind.u8.wrap (1 - nth a q) = 1 - nth a q := by have h := FA.out; rw [← FQ.out] at h; exact wraps_u8 _ h.1 (by omega)
  have hw2 : IntKind.u8.wrap (1 - nth b q) = 1 - nth b q := by have h := FB.out; rw [← LE.out, ← FQ.out] at h; exact wraps_u8 _ h.1 (by omega)
  skip
  go_wp2_with fail
  have X1 : 0 ≤ 1 - nth a q ∧ 1 - nth a q ≤ 255 := by have h := FA.out; rw [← FQ.out] at h; omega
  have X2 : 0 ≤ 1 - nth b q ∧ 1 - nth b q ≤ 255 := by have h := FB.out; rw [← LE.out, ← FQ.out] at h; omega
  have hr1 := ((HO1b.out.put q X1.1 X1.2).other hne (k := q) (.int .u8 (1 - nth b q))).drew.reads_at
  have hr2 := ((HO2.out.other hne' (k := q) (.int .u8 (1 - nth a q))).put q X2.1 X2.2).drew.reads_at
  have e1 : a.set q (1 - nth a q) = flip a := by rw [FQ.out]; rfl
  have e2 : b.set q (1 - nth b q) = flip b := by rw [FQ.out, LE.out]; rfl
  rw [e1] at hr1
  rw [e2] at hr2
  have LL := less_calls (flip a) (flip b) _ _ c1 c2 _ hr1 hr2
  rw [flip_length, flip_length] at LL
  have LL := Aside0.mk LL
  have HB8 : Aside0 (Below w.heap.size w ((w7.setCell ⟨g1, q, none⟩ (.int .u8 (1 - nth a q))).setCell ⟨g2, q, none⟩ (.int .u8 (1 - nth b q))).drew) := ⟨((HB7.out.setCell hz1 _).setCell hz2 _).drew⟩
  clear hr1 hr2 e1 e2 X1 X2
  go_region
  clear hc1 hf1 hc2 hf2 hw1 hw2 HO1b HO2 Ra_7 Rb_7 HB7
  go_wp2_with fail
  refine (LL.out).mono ?_
  rintro e w8 ⟨rfl, hb⟩
  rw [T.out]
  rw [HE.out]
  rw [C3.out]
  have HB9 := Aside0.mk (below_step HB8.out hb)
  clear HB8
  clear hb
  go_wp2_with fail
  refine (awake_calls _).mono ?_
  rintro e w9 ⟨rfl, hb⟩
  have HBz := Aside0.mk (below_step HB9.out hb)
  clear hb
  go_wp2_with fail
  go_ret
  exact ⟨rfl, HBz.out⟩
theorem vecOne_walk (w : World) (a : List Int) (A : Option Addr) (ca : Nat) (ra : Rd w A a) (hca : a.length ≤ ca) (b : List Int) (B : Option Addr) (cb : Nat) (rb : Rd w B b) (hcb : b.length ≤ cb) :
    Calls Try.prog 7 #[.slice A a.length ca, .slice B b.length cb] w fun e w' => e = .returned (.bool true) ∧ Below w.heap.size w w' := by
  cases h1 : isV a
  · exact one_bad1 w a A ca ra b B cb rb h1
  cases h2 : isV b
  · exact one_bad2 w a A ca ra b B cb rb h1 h2
  by_cases h0 : a.length = b.length
  rotate_left
  · exact one_bad3 w a A ca ra b B cb rb h1 h2 h0
  cases h3 : sureB a
  · exact one_bad4 w a A ca ra b B cb rb h1 h2 h0 h3
  cases h4 : sureB b
  · exact one_bad5 w a A ca ra b B cb rb h1 h2 h0 h3 h4
  have k1 : knownB a = true := by simpa [sureB, h1] using h3
  have k2 : knownB b = true := by simpa [sureB, h2] using h4
  have p := pairB_intro h1 h2 h0
  have p' := one_swap p
  have bo : bothB a b = true := by simp [bothB, k1, k2]
  have bo' := one_bswap bo
  have L := one_less p bo
  have M := one_less p' bo'
  have S := one_same p bo ra.b rb.b
  have S' := one_signedsame p bo ra.b rb.b
  have E := signed_sv a b p bo ra.b rb.b
  have E' := signed_sv b a p' bo' rb.b ra.b
  by_cases hs : num a = num b
  · have hs' : sv a = sv b := by rw [S] at S'; simpa [hs] using S'
    exact one_same' w a A ca ra b B cb rb h1 h2 h0 h3 h4 (by rw [L]; simp; omega) (by rw [M]; simp; omega) (by rw [S]; simp [hs]) (by rw [E]; simp; omega) (by rw [E']; simp; omega)
  · have hs' : ¬ sv a = sv b := by rw [S] at S'; simpa [hs] using S'
    by_cases hl : num a < num b <;> by_cases hv : sv a < sv b
    · exact one_tftf w a A ca ra b B cb rb h1 h2 h0 h3 h4 (by rw [L]; simp; omega) (by rw [M]; simp; omega) (by rw [S]; simp [hs]) (by rw [E]; simp; omega) (by rw [E']; simp; omega)
    · exact one_tfft w a A ca ra b B cb rb h1 h2 h0 h3 h4 (by rw [L]; simp; omega) (by rw [M]; simp; omega) (by rw [S]; simp [hs]) (by rw [E]; simp; omega) (by rw [E']; simp; omega)
    · exact one_fttf w a A ca ra b B cb rb h1 h2 h0 h3 h4 (by rw [L]; simp; omega) (by rw [M]; simp; omega) (by rw [S]; simp [hs]) (by rw [E]; simp; omega) (by rw [E']; simp; omega)
    · exact one_ftft w a A ca ra b B cb rb h1 h2 h0 h3 h4 (by rw [L]; simp; omega) (by rw [M]; simp; omega) (by rw [S]; simp [hs]) (by rw [E]; simp; omega) (by rw [E']; simp; omega)
end Go.Proofs.Ytaffdpgacggllaa.V
