import Derived.Test.YtaffdpgacggllaaVd
namespace Go.Proofs.Ytaffdpgacggllaa.V
open Go.RowKit Go.Proofs.YtaffdpgacggllaaW.PrintWords Go.Proofs.YtaffdpgacggllaaW.PrintLast Go.Proofs.YtaffdpgacggllaaW.PrintMore
set_option linter.unusedVariables false
set_option linter.unusedSimpArgs false
def addW (x y : Int) : Int := IntKind.u64.wrap (x + y)
def subW (x y : Int) : Int := IntKind.u64.wrap (x - y)
def mulW (x y : Int) : Int := IntKind.u64.wrap (x * y)
theorem wrap_u64_range (x : Int) : 0 ≤ IntKind.u64.wrap x ∧ IntKind.u64.wrap x < 18446744073709551616 := by
  simp only [IntKind.wrap, IntKind.bits, IntKind.signed]
  simp
  omega
theorem add_does : Does 61 addW := by
  intro x y w hx0 hx1 hy0 hy1
  refine ⟨wrap_u64_range _, ?_⟩
  have H := Aside0.mk (And.intro hx1 hy1)
  clear hx1 hy1
  go_enter Try.func61, Try.ntmps61
  go_wp2
  go_ret
  exact ⟨rfl, rfl⟩
theorem mul_does : Does 62 mulW := by
  intro x y w hx0 hx1 hy0 hy1
  refine ⟨wrap_u64_range _, ?_⟩
  have H := Aside0.mk (And.intro hx1 hy1)
  clear hx1 hy1
  go_enter Try.func62, Try.ntmps62
  go_wp2
  go_ret
  exact ⟨rfl, rfl⟩
theorem sub_does : Does 64 subW := by
  intro x y w hx0 hx1 hy0 hy1
  refine ⟨wrap_u64_range _, ?_⟩
  have H := Aside0.mk (And.intro hx1 hy1)
  clear hx1 hy1
  go_enter Try.func64, Try.ntmps64
  go_wp2
  go_ret
  exact ⟨rfl, rfl⟩
section
variable (xs ys : List Int) (A B : Option Addr) (c d : Nat) (w : World)
set_option maxRecDepth 100000 in
theorem compute_add (hx : Rd w A xs) (hy : Rd w B ys) (h : pairB xs ys = true) (hk : bothB xs ys = true) :
    Calls Try.prog 60 #[.agg #[.slice A xs.length c, .slice B ys.length d], .func (.func 61) #[] #[]] w fun e w' => ∃ v, e = .returned (.tuple #[v, .int .i64 0]) ∧ Own w' w.heap.size v (bitsOf (addW (num xs) (num ys)) xs.length) ∧ Below w.heap.size w w' := by
  have HB : Aside0 (∀ o, Below w.heap.size w (w.alloc o)) := ⟨fun o => (Below.refl _ _).alloc (Nat.le_refl _) o⟩
  have HX := Aside0.mk hx
  have HY := Aside0.mk hy
  have H := Aside0.mk h
  have hp := isV_pos (pairB_pos h).1
  have hq := isV_pos (pairB_pos h).2.1
  have hn1 := hp.1
  have hn2 := hp.2.1
  have hm1 := hq.1
  have hm2 := hq.2.1
  have K1 : Aside0 (knownB xs = true) := ⟨by simp [bothB] at hk; exact hk.1⟩
  have K2 : Aside0 (knownB ys = true) := ⟨by simp [bothB] at hk; exact hk.2⟩
  have U1 := num_u64 hx.b K1.out hn2
  have U2 := num_u64 hy.b K2.out hm2
  have GU := (add_does (num xs) (num ys) w U1.1 U1.2 U2.1 U2.2).1
  have UU := Aside0.mk (And.intro U1 (And.intro U2 GU))
  clear hx hy h hp hq hk U1 U2 GU
  go_enter Try.func60, Try.ntmps60
  go_wp2_with fail
  refine (valid_calls _ _ _ _ _ _ _ (HX.out.below (HB.out _)) (HY.out.below (HB.out _))).mono ?_
  rintro e w1 ⟨rfl, hb1⟩
  rw [show ((isV xs && isV ys) && decide (xs.length = ys.length)) = true from H.out]
  have HB1 := Aside0.mk (below_step (HB.out _) hb1)
  obtain ⟨hc1, hf1⟩ := bcell hb1
  clear hb1
  go_wp2_with fail
  refine (known_calls _ _ _ _ (HX.out.below HB1.out) hn1).mono ?_
  rintro e w2 ⟨rfl, rfl⟩
  rw [K1.out]
  go_wp2_with fail
  refine (known_calls _ _ _ _ (HY.out.below HB1.out) hm1).mono ?_
  rintro e w2 ⟨rfl, rfl⟩
  rw [K2.out]
  go_wp2_with fail
  refine wp_region_still_tail 11 (by kernel_rfl) (by kernel_rfl) ?_
  simp only [List.take_succ_cons, List.take_zero, List.drop_succ_cons, List.drop_zero]
  have HXd := Aside0.mk ((HX.out.below HB1.out).below (Below.refl _ _).drew)
  have HYd := Aside0.mk ((HY.out.below HB1.out).below (Below.refl _ _).drew)
  still_step
  still_step
  still_step
  still_call ((number_calls _ _ _ _ HXd.out K1.out hn2).mono fun e w' h => ⟨h.1, h.2.symm⟩)
  still_step
  still_step
  still_call ((number_calls _ _ _ _ HYd.out K2.out hm2).mono fun e w' h => ⟨h.1, h.2.symm⟩)
  still_call ((add_does _ _ _ UU.out.1.1 UU.out.1.2 UU.out.2.1.1 UU.out.2.1.2).2.mono fun e w' h => ⟨h.1, h.2.symm⟩)
  still_step
  still_step
  still_step
  refine wpStill_nil ?_
  have HB2 := Aside0.mk HB1.out.drew
  change wpList _ _ _ _ _ w1.drew
  generalize w1.drew = w2 at HB2 ⊢
  go_wp2_with fail
  refine (of_calls _ _ _ UU.out.2.2.1 UU.out.2.2.2 hn1 hn2).mono ?_
  rintro e w3 ⟨v, rfl, ho, hb3⟩
  have HO := Aside0.mk ho
  have HB3 := Aside0.mk hb3
  clear ho hb3
  go_wp2_with fail
  go_ret2
  exact ⟨_, rfl, HO.out.lower HB2.out.size, below_step HB2.out HB3.out⟩
theorem add_calls (hx : Rd w A xs) (hy : Rd w B ys) :
    Calls Try.prog 20 #[.slice A xs.length c, .slice B ys.length d] w fun e w' => ∃ v, e = .returned (.tuple #[v, .int .i64 (compE xs ys)]) ∧ Own w' w.heap.size v (compV addW xs ys) ∧ Below w.heap.size w w' := by
  have HX := Aside0.mk hx
  have HY := Aside0.mk hy
  clear hx hy
  by_cases h : pairB xs ys = true
  · by_cases hk : bothB xs ys = true
    · have E1 : Aside0 (compV addW xs ys = bitsOf (addW (num xs) (num ys)) xs.length) := ⟨by simp [compV, h, hk]⟩
      have E2 : Aside0 (compE xs ys = 0) := ⟨by simp [compE, h]⟩
      have H := Aside0.mk (And.intro h hk)
      clear h hk
      go_enter Try.func20, Try.ntmps20
      go_wp2_with fail
      refine (compute_add _ _ _ _ _ _ _ HX.out HY.out H.out.1 H.out.2).mono ?_
      rintro e w1 ⟨v, rfl, ho, hb⟩
      have HO := Aside0.mk ho
      have HB := Aside0.mk hb
      clear ho hb
      go_wp2_with fail
      go_ret2
      exact ⟨_, by rw [E2.out]; rfl, by rw [E1.out]; exact HO.out, HB.out⟩
    · have hk' := eq_false_of_ne_true hk
      have E1 : Aside0 (compV addW xs ys = List.replicate xs.length 2) := ⟨by simp [compV, h, hk']⟩
      have E2 : Aside0 (compE xs ys = 0) := ⟨by simp [compE, h]⟩
      have H := Aside0.mk (And.intro h hk')
      clear h hk hk'
      go_enter Try.func20, Try.ntmps20
      go_wp2_with fail
      refine (compute_x _ _ _ _ _ _ _ _ HX.out HY.out H.out.1 H.out.2).mono ?_
      rintro e w1 ⟨v, rfl, ho, hb⟩
      have HO := Aside0.mk ho
      have HB := Aside0.mk hb
      clear ho hb
      go_wp2_with fail
      go_ret2
      exact ⟨_, by rw [E2.out]; rfl, by rw [E1.out]; exact HO.out, HB.out⟩
  · have h' := eq_false_of_ne_true h
    have E1 : Aside0 (compV addW xs ys = []) := ⟨by simp [compV, h']⟩
    have E2 : Aside0 (compE xs ys = 2) := ⟨by simp [compE, h']⟩
    have H := Aside0.mk h'
    clear h h'
    go_enter Try.func20, Try.ntmps20
    go_wp2_with fail
    refine (compute_bad _ _ _ _ _ _ _ _ HX.out HY.out H.out).mono ?_
    rintro e w1 ⟨rfl, hb⟩
    have HB := Aside0.mk hb
    clear hb
    go_wp2_with fail
    go_ret2
    exact ⟨_, by rw [E2.out]; rfl, by rw [E1.out]; exact Own.nil _ _, HB.out⟩
set_option maxRecDepth 100000 in
theorem compute_mul (hx : Rd w A xs) (hy : Rd w B ys) (h : pairB xs ys = true) (hk : bothB xs ys = true) :
    Calls Try.prog 60 #[.agg #[.slice A xs.length c, .slice B ys.length d], .func (.func 62) #[] #[]] w fun e w' => ∃ v, e = .returned (.tuple #[v, .int .i64 0]) ∧ Own w' w.heap.size v (bitsOf (mulW (num xs) (num ys)) xs.length) ∧ Below w.heap.size w w' := by
  have HB : Aside0 (∀ o, Below w.heap.size w (w.alloc o)) := ⟨fun o => (Below.refl _ _).alloc (Nat.le_refl _) o⟩
  have HX := Aside0.mk hx
  have HY := Aside0.mk hy
  have H := Aside0.mk h
  have hp := isV_pos (pairB_pos h).1
  have hq := isV_pos (pairB_pos h).2.1
  have hn1 := hp.1
  have hn2 := hp.2.1
  have hm1 := hq.1
  have hm2 := hq.2.1
  have K1 : Aside0 (knownB xs = true) := ⟨by simp [bothB] at hk; exact hk.1⟩
  have K2 : Aside0 (knownB ys = true) := ⟨by simp [bothB] at hk; exact hk.2⟩
  have U1 := num_u64 hx.b K1.out hn2
  have U2 := num_u64 hy.b K2.out hm2
  have GU := (mul_does (num xs) (num ys) w U1.1 U1.2 U2.1 U2.2).1
  have UU := Aside0.mk (And.intro U1 (And.intro U2 GU))
  clear hx hy h hp hq hk U1 U2 GU
  go_enter Try.func60, Try.ntmps60
  go_wp2_with fail
  refine (valid_calls _ _ _ _ _ _ _ (HX.out.below (HB.out _)) (HY.out.below (HB.out _))).mono ?_
  rintro e w1 ⟨rfl, hb1⟩
  rw [show ((isV xs && isV ys) && decide (xs.length = ys.length)) = true from H.out]
  have HB1 := Aside0.mk (below_step (HB.out _) hb1)
  obtain ⟨hc1, hf1⟩ := bcell hb1
  clear hb1
  go_wp2_with fail
  refine (known_calls _ _ _ _ (HX.out.below HB1.out) hn1).mono ?_
  rintro e w2 ⟨rfl, rfl⟩
  rw [K1.out]
  go_wp2_with fail
  refine (known_calls _ _ _ _ (HY.out.below HB1.out) hm1).mono ?_
  rintro e w2 ⟨rfl, rfl⟩
  rw [K2.out]
  go_wp2_with fail
  refine wp_region_still_tail 11 (by kernel_rfl) (by kernel_rfl) ?_
  simp only [List.take_succ_cons, List.take_zero, List.drop_succ_cons, List.drop_zero]
  have HXd := Aside0.mk ((HX.out.below HB1.out).below (Below.refl _ _).drew)
  have HYd := Aside0.mk ((HY.out.below HB1.out).below (Below.refl _ _).drew)
  still_step
  still_step
  still_step
  still_call ((number_calls _ _ _ _ HXd.out K1.out hn2).mono fun e w' h => ⟨h.1, h.2.symm⟩)
  still_step
  still_step
  still_call ((number_calls _ _ _ _ HYd.out K2.out hm2).mono fun e w' h => ⟨h.1, h.2.symm⟩)
  still_call ((mul_does _ _ _ UU.out.1.1 UU.out.1.2 UU.out.2.1.1 UU.out.2.1.2).2.mono fun e w' h => ⟨h.1, h.2.symm⟩)
  still_step
  still_step
  still_step
  refine wpStill_nil ?_
  have HB2 := Aside0.mk HB1.out.drew
  change wpList _ _ _ _ _ w1.drew
  generalize w1.drew = w2 at HB2 ⊢
  go_wp2_with fail
  refine (of_calls _ _ _ UU.out.2.2.1 UU.out.2.2.2 hn1 hn2).mono ?_
  rintro e w3 ⟨v, rfl, ho, hb3⟩
  have HO := Aside0.mk ho
  have HB3 := Aside0.mk hb3
  clear ho hb3
  go_wp2_with fail
  go_ret2
  exact ⟨_, rfl, HO.out.lower HB2.out.size, below_step HB2.out HB3.out⟩
theorem mul_calls (hx : Rd w A xs) (hy : Rd w B ys) :
    Calls Try.prog 21 #[.slice A xs.length c, .slice B ys.length d] w fun e w' => ∃ v, e = .returned (.tuple #[v, .int .i64 (compE xs ys)]) ∧ Own w' w.heap.size v (compV mulW xs ys) ∧ Below w.heap.size w w' := by
  have HX := Aside0.mk hx
  have HY := Aside0.mk hy
  clear hx hy
  by_cases h : pairB xs ys = true
  · by_cases hk : bothB xs ys = true
    · have E1 : Aside0 (compV mulW xs ys = bitsOf (mulW (num xs) (num ys)) xs.length) := ⟨by simp [compV, h, hk]⟩
      have E2 : Aside0 (compE xs ys = 0) := ⟨by simp [compE, h]⟩
      have H := Aside0.mk (And.intro h hk)
      clear h hk
      go_enter Try.func21, Try.ntmps21
      go_wp2_with fail
      refine (compute_mul _ _ _ _ _ _ _ HX.out HY.out H.out.1 H.out.2).mono ?_
      rintro e w1 ⟨v, rfl, ho, hb⟩
      have HO := Aside0.mk ho
      have HB := Aside0.mk hb
      clear ho hb
      go_wp2_with fail
      go_ret2
      exact ⟨_, by rw [E2.out]; rfl, by rw [E1.out]; exact HO.out, HB.out⟩
    · have hk' := eq_false_of_ne_true hk
      have E1 : Aside0 (compV mulW xs ys = List.replicate xs.length 2) := ⟨by simp [compV, h, hk']⟩
      have E2 : Aside0 (compE xs ys = 0) := ⟨by simp [compE, h]⟩
      have H := Aside0.mk (And.intro h hk')
      clear h hk hk'
      go_enter Try.func21, Try.ntmps21
      go_wp2_with fail
      refine (compute_x _ _ _ _ _ _ _ _ HX.out HY.out H.out.1 H.out.2).mono ?_
      rintro e w1 ⟨v, rfl, ho, hb⟩
      have HO := Aside0.mk ho
      have HB := Aside0.mk hb
      clear ho hb
      go_wp2_with fail
      go_ret2
      exact ⟨_, by rw [E2.out]; rfl, by rw [E1.out]; exact HO.out, HB.out⟩
  · have h' := eq_false_of_ne_true h
    have E1 : Aside0 (compV mulW xs ys = []) := ⟨by simp [compV, h']⟩
    have E2 : Aside0 (compE xs ys = 2) := ⟨by simp [compE, h']⟩
    have H := Aside0.mk h'
    clear h h'
    go_enter Try.func21, Try.ntmps21
    go_wp2_with fail
    refine (compute_bad _ _ _ _ _ _ _ _ HX.out HY.out H.out).mono ?_
    rintro e w1 ⟨rfl, hb⟩
    have HB := Aside0.mk hb
    clear hb
    go_wp2_with fail
    go_ret2
    exact ⟨_, by rw [E2.out]; rfl, by rw [E1.out]; exact Own.nil _ _, HB.out⟩
set_option maxRecDepth 100000 in
theorem compute_sub (hx : Rd w A xs) (hy : Rd w B ys) (h : pairB xs ys = true) (hk : bothB xs ys = true) :
    Calls Try.prog 60 #[.agg #[.slice A xs.length c, .slice B ys.length d], .func (.func 64) #[] #[]] w fun e w' => ∃ v, e = .returned (.tuple #[v, .int .i64 0]) ∧ Own w' w.heap.size v (bitsOf (subW (num xs) (num ys)) xs.length) ∧ Below w.heap.size w w' := by
  have HB : Aside0 (∀ o, Below w.heap.size w (w.alloc o)) := ⟨fun o => (Below.refl _ _).alloc (Nat.le_refl _) o⟩
  have HX := Aside0.mk hx
  have HY := Aside0.mk hy
  have H := Aside0.mk h
  have hp := isV_pos (pairB_pos h).1
  have hq := isV_pos (pairB_pos h).2.1
  have hn1 := hp.1
  have hn2 := hp.2.1
  have hm1 := hq.1
  have hm2 := hq.2.1
  have K1 : Aside0 (knownB xs = true) := ⟨by simp [bothB] at hk; exact hk.1⟩
  have K2 : Aside0 (knownB ys = true) := ⟨by simp [bothB] at hk; exact hk.2⟩
  have U1 := num_u64 hx.b K1.out hn2
  have U2 := num_u64 hy.b K2.out hm2
  have GU := (sub_does (num xs) (num ys) w U1.1 U1.2 U2.1 U2.2).1
  have UU := Aside0.mk (And.intro U1 (And.intro U2 GU))
  clear hx hy h hp hq hk U1 U2 GU
  go_enter Try.func60, Try.ntmps60
  go_wp2_with fail
  refine (valid_calls _ _ _ _ _ _ _ (HX.out.below (HB.out _)) (HY.out.below (HB.out _))).mono ?_
  rintro e w1 ⟨rfl, hb1⟩
  rw [show ((isV xs && isV ys) && decide (xs.length = ys.length)) = true from H.out]
  have HB1 := Aside0.mk (below_step (HB.out _) hb1)
  obtain ⟨hc1, hf1⟩ := bcell hb1
  clear hb1
  go_wp2_with fail
  refine (known_calls _ _ _ _ (HX.out.below HB1.out) hn1).mono ?_
  rintro e w2 ⟨rfl, rfl⟩
  rw [K1.out]
  go_wp2_with fail
  refine (known_calls _ _ _ _ (HY.out.below HB1.out) hm1).mono ?_
  rintro e w2 ⟨rfl, rfl⟩
  rw [K2.out]
  go_wp2_with fail
  refine wp_region_still_tail 11 (by kernel_rfl) (by kernel_rfl) ?_
  simp only [List.take_succ_cons, List.take_zero, List.drop_succ_cons, List.drop_zero]
  have HXd := Aside0.mk ((HX.out.below HB1.out).below (Below.refl _ _).drew)
  have HYd := Aside0.mk ((HY.out.below HB1.out).below (Below.refl _ _).drew)
  still_step
  still_step
  still_step
  still_call ((number_calls _ _ _ _ HXd.out K1.out hn2).mono fun e w' h => ⟨h.1, h.2.symm⟩)
  still_step
  still_step
  still_call ((number_calls _ _ _ _ HYd.out K2.out hm2).mono fun e w' h => ⟨h.1, h.2.symm⟩)
  still_call ((sub_does _ _ _ UU.out.1.1 UU.out.1.2 UU.out.2.1.1 UU.out.2.1.2).2.mono fun e w' h => ⟨h.1, h.2.symm⟩)
  still_step
  still_step
  still_step
  refine wpStill_nil ?_
  have HB2 := Aside0.mk HB1.out.drew
  change wpList _ _ _ _ _ w1.drew
  generalize w1.drew = w2 at HB2 ⊢
  go_wp2_with fail
  refine (of_calls _ _ _ UU.out.2.2.1 UU.out.2.2.2 hn1 hn2).mono ?_
  rintro e w3 ⟨v, rfl, ho, hb3⟩
  have HO := Aside0.mk ho
  have HB3 := Aside0.mk hb3
  clear ho hb3
  go_wp2_with fail
  go_ret2
  exact ⟨_, rfl, HO.out.lower HB2.out.size, below_step HB2.out HB3.out⟩
theorem sub_calls (hx : Rd w A xs) (hy : Rd w B ys) :
    Calls Try.prog 24 #[.slice A xs.length c, .slice B ys.length d] w fun e w' => ∃ v, e = .returned (.tuple #[v, .int .i64 (compE xs ys)]) ∧ Own w' w.heap.size v (compV subW xs ys) ∧ Below w.heap.size w w' := by
  have HX := Aside0.mk hx
  have HY := Aside0.mk hy
  clear hx hy
  by_cases h : pairB xs ys = true
  · by_cases hk : bothB xs ys = true
    · have E1 : Aside0 (compV subW xs ys = bitsOf (subW (num xs) (num ys)) xs.length) := ⟨by simp [compV, h, hk]⟩
      have E2 : Aside0 (compE xs ys = 0) := ⟨by simp [compE, h]⟩
      have H := Aside0.mk (And.intro h hk)
      clear h hk
      go_enter Try.func24, Try.ntmps24
      go_wp2_with fail
      refine (compute_sub _ _ _ _ _ _ _ HX.out HY.out H.out.1 H.out.2).mono ?_
      rintro e w1 ⟨v, rfl, ho, hb⟩
      have HO := Aside0.mk ho
      have HB := Aside0.mk hb
      clear ho hb
      go_wp2_with fail
      go_ret2
      exact ⟨_, by rw [E2.out]; rfl, by rw [E1.out]; exact HO.out, HB.out⟩
    · have hk' := eq_false_of_ne_true hk
      have E1 : Aside0 (compV subW xs ys = List.replicate xs.length 2) := ⟨by simp [compV, h, hk']⟩
      have E2 : Aside0 (compE xs ys = 0) := ⟨by simp [compE, h]⟩
      have H := Aside0.mk (And.intro h hk')
      clear h hk hk'
      go_enter Try.func24, Try.ntmps24
      go_wp2_with fail
      refine (compute_x _ _ _ _ _ _ _ _ HX.out HY.out H.out.1 H.out.2).mono ?_
      rintro e w1 ⟨v, rfl, ho, hb⟩
      have HO := Aside0.mk ho
      have HB := Aside0.mk hb
      clear ho hb
      go_wp2_with fail
      go_ret2
      exact ⟨_, by rw [E2.out]; rfl, by rw [E1.out]; exact HO.out, HB.out⟩
  · have h' := eq_false_of_ne_true h
    have E1 : Aside0 (compV subW xs ys = []) := ⟨by simp [compV, h']⟩
    have E2 : Aside0 (compE xs ys = 2) := ⟨by simp [compE, h']⟩
    have H := Aside0.mk h'
    clear h h'
    go_enter Try.func24, Try.ntmps24
    go_wp2_with fail
    refine (compute_bad _ _ _ _ _ _ _ _ HX.out HY.out H.out).mono ?_
    rintro e w1 ⟨rfl, hb⟩
    have HB := Aside0.mk hb
    clear hb
    go_wp2_with fail
    go_ret2
    exact ⟨_, by rw [E2.out]; rfl, by rw [E1.out]; exact Own.nil _ _, HB.out⟩
end
end Go.Proofs.Ytaffdpgacggllaa.V
