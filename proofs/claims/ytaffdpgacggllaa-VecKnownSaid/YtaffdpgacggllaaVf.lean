/- Contracts of functions of package vec, the sixth part: comparisons. -/
import Derived.Test.YtaffdpgacggllaaVe
namespace Go.Proofs.Ytaffdpgacggllaa.V
open Go.RowKit Go.Proofs.YtaffdpgacggllaaW.PrintWords Go.Proofs.YtaffdpgacggllaaW.PrintLast Go.Proofs.YtaffdpgacggllaaW.PrintMore
set_option linter.unusedVariables false
set_option linter.unusedSimpArgs false

theorem below_drewN' (w : World) (n : Nat) : Below w.heap.size w (w.drewN n) := pw_below_drewN (Below.refl _ _) n
theorem Rd.drewN {w : World} {A : Option Addr} {xs : List Int} (h : Rd w A xs) (n : Nat) : Rd (w.drewN n) A xs := h.below (below_drewN' w n)
theorem known_q {w : World} {A : Option Addr} {xs : List Int} {c : Nat} (hx : Rd w A xs) (h1 : 1 ≤ xs.length) (r : Bool) (hr : knownB xs = r) (n : Nat) :
    Calls Try.prog 80 #[.slice A xs.length c] (w.drewN n) fun e w' => e = .returned (.bool r) ∧ ∃ m, w' = w.drewN m :=
  (known_calls xs A c _ (hx.drewN n) h1).mono fun e w' h => ⟨by rw [h.1, hr], n, h.2.symm⟩
theorem number_q {w : World} {A : Option Addr} {xs : List Int} {c : Nat} (hx : Rd w A xs) (h1 : knownB xs = true) (h64 : xs.length ≤ 64) (n : Nat) :
    Calls Try.prog 81 #[.slice A xs.length c] (w.drewN n) fun e w' => e = .returned (.int .u64 (num xs)) ∧ ∃ m, w' = w.drewN m :=
  (number_calls xs A c _ (hx.drewN n) h1 h64).mono fun e w' h => ⟨h.1, n, h.2.symm⟩
theorem less_q (x y : Int) (w : World) (n : Nat) : Calls Try.prog 67 #[.int .u64 x, .int .u64 y] (w.drewN n) fun e w' => e = .returned (.bool (decide (x < y))) ∧ ∃ m, w' = w.drewN m := by
  go_enter Try.func67, Try.ntmps67
  go_wp2
  go_ret
  exact ⟨rfl, n, rfl⟩
def upTo (u : Nat) (x : Int) : Int := wrap64 (IntKind.u64.wrap (x * 2 ^ u))
theorem signed_q (x y : Int) (u : Nat) (g : Nat) (w : World) (n : Nat) (hu : u ≤ 63) (hc : w.cell? ⟨g, 0, none⟩ = some (.int .i64 u)) :
    Calls Try.prog 70 #[.int .u64 x, .int .u64 y, .pointer (some ⟨g, 0, none⟩)] (w.drewN n) fun e w' => e = .returned (.bool (decide (upTo u x < upTo u y))) ∧ ∃ m, w' = w.drewN m := by
  go_enter Try.func70, Try.ntmps70
  go_wp2
  go_quiet (fail)
  go_wp2
  go_ret
  exact ⟨rfl, _, World.drewN_drewN ..⟩
section
variable (xs ys : List Int) (A B : Option Addr) (c d : Nat) (w : World)
set_option maxRecDepth 100000 in
set_option maxHeartbeats 1000000 in
theorem cmpLess_calls (hx : Rd w A xs) (hy : Rd w B ys) :
    Calls Try.prog 66 #[.agg #[.slice A xs.length c, .slice B ys.length d], .func (.func 67) #[] #[]] w fun e w' => e = .returned (.tuple #[.bool (pairB xs ys && (bothB xs ys && decide (num xs < num ys))), .int .i64 (compE xs ys)]) ∧ Below w.heap.size w w' := by
  have HB : Aside0 (∀ o, Below w.heap.size w (w.alloc o)) := ⟨fun o => (Below.refl _ _).alloc (Nat.le_refl _) o⟩
  have HX := Aside0.mk hx
  have HY := Aside0.mk hy
  by_cases h : pairB xs ys = true
  · have H := Aside0.mk h
    have E2 : Aside0 (compE xs ys = 0) := ⟨by simp [compE, h]⟩
    have hp := isV_pos (pairB_pos h).1
    have hq := isV_pos (pairB_pos h).2.1
    have hn1 := hp.1
    have hn2 := hp.2.1
    have hm1 := hq.1
    have hm2 := hq.2.1
    by_cases k1 : knownB xs = true
    · by_cases k2 : knownB ys = true
      · have E3 : Aside0 (bothB xs ys = true) := ⟨by simp [bothB, k1, k2]⟩
        have K1 := Aside0.mk k1
        have K2 := Aside0.mk k2
        clear hx hy h hp hq k1 k2
        go_enter Try.func66, Try.ntmps66
        go_wp2_with fail
        refine (valid_calls _ _ _ _ _ _ _ (HX.out.below (HB.out _)) (HY.out.below (HB.out _))).mono ?_
        rintro e w1 ⟨rfl, hb1⟩
        rw [show ((isV xs && isV ys) && decide (xs.length = ys.length)) = true from H.out]
        have HB1 := Aside0.mk (below_step (HB.out _) hb1)
        have HX1 := Aside0.mk (HX.out.below HB1.out)
        have HY1 := Aside0.mk (HY.out.below HB1.out)
        obtain ⟨hc1, hf1⟩ := bcell hb1
        clear hb1
        go_wp2_with fail
        go_quiet (first | (go_at_call 80; with_reducible exact known_q HX1.out hn1 true K1.out _) | (go_at_call 80; with_reducible exact known_q HY1.out hm1 true K2.out _) | (go_at_call 81; with_reducible exact number_q HX1.out K1.out hn2 _) | (go_at_call 81; with_reducible exact number_q HY1.out K2.out hm2 _) | (go_at_call 67; with_reducible exact less_q _ _ _ _))
        go_wp2
        go_ret2
        exact ⟨by rw [E2.out, E3.out, H.out]; simp, HB1.out.trans (pw_below_drewN (Below.refl _ _) _)⟩
      · have k2' := eq_false_of_ne_true k2
        have E3 : Aside0 (bothB xs ys = false) := ⟨by simp [bothB, k1, k2']⟩
        have K1 := Aside0.mk k1
        have K2 := Aside0.mk k2'
        clear hx hy h hp hq k1 k2 k2'
        go_enter Try.func66, Try.ntmps66
        go_wp2_with fail
        refine (valid_calls _ _ _ _ _ _ _ (HX.out.below (HB.out _)) (HY.out.below (HB.out _))).mono ?_
        rintro e w1 ⟨rfl, hb1⟩
        rw [show ((isV xs && isV ys) && decide (xs.length = ys.length)) = true from H.out]
        have HB1 := Aside0.mk (below_step (HB.out _) hb1)
        have HX1 := Aside0.mk (HX.out.below HB1.out)
        have HY1 := Aside0.mk (HY.out.below HB1.out)
        obtain ⟨hc1, hf1⟩ := bcell hb1
        clear hb1
        go_wp2_with fail
        go_quiet (first | (go_at_call 80; with_reducible exact known_q HX1.out hn1 true K1.out _) | (go_at_call 80; with_reducible exact known_q HY1.out hm1 false K2.out _))
        go_wp2
        go_ret2
        exact ⟨by rw [E2.out, E3.out, H.out]; rfl, HB1.out.trans (pw_below_drewN (Below.refl _ _) _)⟩
    · have k1' := eq_false_of_ne_true k1
      have E3 : Aside0 (bothB xs ys = false) := ⟨by simp [bothB, k1']⟩
      have K1 := Aside0.mk k1'
      clear hx hy h hp hq k1 k1'
      go_enter Try.func66, Try.ntmps66
      go_wp2_with fail
      refine (valid_calls _ _ _ _ _ _ _ (HX.out.below (HB.out _)) (HY.out.below (HB.out _))).mono ?_
      rintro e w1 ⟨rfl, hb1⟩
      rw [show ((isV xs && isV ys) && decide (xs.length = ys.length)) = true from H.out]
      have HB1 := Aside0.mk (below_step (HB.out _) hb1)
      have HX1 := Aside0.mk (HX.out.below HB1.out)
      have HY1 := Aside0.mk (HY.out.below HB1.out)
      obtain ⟨hc1, hf1⟩ := bcell hb1
      clear hb1
      go_wp2_with fail
      go_quiet (first | (go_at_call 80; with_reducible exact known_q HX1.out hn1 false K1.out _))
      go_wp2
      go_ret2
      exact ⟨by rw [E2.out, E3.out, H.out]; rfl, HB1.out.trans (pw_below_drewN (Below.refl _ _) _)⟩
  · have h' := eq_false_of_ne_true h
    have E2 : Aside0 (compE xs ys = 2) := ⟨by simp [compE, h']⟩
    have H := Aside0.mk h'
    clear hx hy h h'
    go_enter Try.func66, Try.ntmps66
    go_wp2_with fail
    refine (valid_calls _ _ _ _ _ _ _ (HX.out.below (HB.out _)) (HY.out.below (HB.out _))).mono ?_
    rintro e w1 ⟨rfl, hb1⟩
    rw [show ((isV xs && isV ys) && decide (xs.length = ys.length)) = false from H.out]
    have HB1 := Aside0.mk (below_step (HB.out _) hb1)
    clear hb1
    go_wp2_with fail
    go_ret2
    exact ⟨by rw [E2.out, H.out]; rfl, HB1.out⟩
set_option maxRecDepth 100000 in
set_option maxHeartbeats 1000000 in
theorem cmpSigned_calls (u g : Nat) (hu : u ≤ 63) (hc : w.cell? ⟨g, 0, none⟩ = some (.int .i64 u)) (hgl : g < w.heap.size) (hx : Rd w A xs) (hy : Rd w B ys) :
    Calls Try.prog 66 #[.agg #[.slice A xs.length c, .slice B ys.length d], .func (.func 70) #[] #[.pointer (some ⟨g, 0, none⟩)]] w fun e w' => e = .returned (.tuple #[.bool (pairB xs ys && (bothB xs ys && decide (upTo u (num xs) < upTo u (num ys)))), .int .i64 (compE xs ys)]) ∧ Below w.heap.size w w' := by
  have HC := Aside0.mk hc
  clear hc
  have HB : Aside0 (∀ o, Below w.heap.size w (w.alloc o)) := ⟨fun o => (Below.refl _ _).alloc (Nat.le_refl _) o⟩
  have HX := Aside0.mk hx
  have HY := Aside0.mk hy
  by_cases h : pairB xs ys = true
  · have H := Aside0.mk h
    have E2 : Aside0 (compE xs ys = 0) := ⟨by simp [compE, h]⟩
    have hp := isV_pos (pairB_pos h).1
    have hq := isV_pos (pairB_pos h).2.1
    have hn1 := hp.1
    have hn2 := hp.2.1
    have hm1 := hq.1
    have hm2 := hq.2.1
    by_cases k1 : knownB xs = true
    · by_cases k2 : knownB ys = true
      · have E3 : Aside0 (bothB xs ys = true) := ⟨by simp [bothB, k1, k2]⟩
        have K1 := Aside0.mk k1
        have K2 := Aside0.mk k2
        clear hx hy h hp hq k1 k2
        go_enter Try.func66, Try.ntmps66
        go_wp2_with fail
        refine (valid_calls _ _ _ _ _ _ _ (HX.out.below (HB.out _)) (HY.out.below (HB.out _))).mono ?_
        rintro e w1 ⟨rfl, hb1⟩
        rw [show ((isV xs && isV ys) && decide (xs.length = ys.length)) = true from H.out]
        have HB1 := Aside0.mk (below_step (HB.out _) hb1)
        have HX1 := Aside0.mk (HX.out.below HB1.out)
        have HY1 := Aside0.mk (HY.out.below HB1.out)
        have HC1 := Aside0.mk ((HB1.out.cell (p := ⟨g, 0, none⟩) hgl).trans HC.out)
        obtain ⟨hc1, hf1⟩ := bcell hb1
        clear hb1
        go_wp2_with fail
        go_quiet (first | (go_at_call 80; with_reducible exact known_q HX1.out hn1 true K1.out _) | (go_at_call 80; with_reducible exact known_q HY1.out hm1 true K2.out _) | (go_at_call 81; with_reducible exact number_q HX1.out K1.out hn2 _) | (go_at_call 81; with_reducible exact number_q HY1.out K2.out hm2 _) | (go_at_call 70; with_reducible exact signed_q _ _ _ _ _ _ hu HC1.out))
        go_wp2
        go_ret2
        exact ⟨by rw [E2.out, E3.out, H.out]; simp, HB1.out.trans (pw_below_drewN (Below.refl _ _) _)⟩
      · have k2' := eq_false_of_ne_true k2
        have E3 : Aside0 (bothB xs ys = false) := ⟨by simp [bothB, k1, k2']⟩
        have K1 := Aside0.mk k1
        have K2 := Aside0.mk k2'
        clear hx hy h hp hq k1 k2 k2'
        go_enter Try.func66, Try.ntmps66
        go_wp2_with fail
        refine (valid_calls _ _ _ _ _ _ _ (HX.out.below (HB.out _)) (HY.out.below (HB.out _))).mono ?_
        rintro e w1 ⟨rfl, hb1⟩
        rw [show ((isV xs && isV ys) && decide (xs.length = ys.length)) = true from H.out]
        have HB1 := Aside0.mk (below_step (HB.out _) hb1)
        have HX1 := Aside0.mk (HX.out.below HB1.out)
        have HY1 := Aside0.mk (HY.out.below HB1.out)
        have HC1 := Aside0.mk ((HB1.out.cell (p := ⟨g, 0, none⟩) hgl).trans HC.out)
        obtain ⟨hc1, hf1⟩ := bcell hb1
        clear hb1
        go_wp2_with fail
        go_quiet (first | (go_at_call 80; with_reducible exact known_q HX1.out hn1 true K1.out _) | (go_at_call 80; with_reducible exact known_q HY1.out hm1 false K2.out _))
        go_wp2
        go_ret2
        exact ⟨by rw [E2.out, E3.out, H.out]; rfl, HB1.out.trans (pw_below_drewN (Below.refl _ _) _)⟩
    · have k1' := eq_false_of_ne_true k1
      have E3 : Aside0 (bothB xs ys = false) := ⟨by simp [bothB, k1']⟩
      have K1 := Aside0.mk k1'
      clear hx hy h hp hq k1 k1'
      go_enter Try.func66, Try.ntmps66
      go_wp2_with fail
      refine (valid_calls _ _ _ _ _ _ _ (HX.out.below (HB.out _)) (HY.out.below (HB.out _))).mono ?_
      rintro e w1 ⟨rfl, hb1⟩
      rw [show ((isV xs && isV ys) && decide (xs.length = ys.length)) = true from H.out]
      have HB1 := Aside0.mk (below_step (HB.out _) hb1)
      have HX1 := Aside0.mk (HX.out.below HB1.out)
      have HY1 := Aside0.mk (HY.out.below HB1.out)
      have HC1 := Aside0.mk ((HB1.out.cell (p := ⟨g, 0, none⟩) hgl).trans HC.out)
      obtain ⟨hc1, hf1⟩ := bcell hb1
      clear hb1
      go_wp2_with fail
      go_quiet (first | (go_at_call 80; with_reducible exact known_q HX1.out hn1 false K1.out _))
      go_wp2
      go_ret2
      exact ⟨by rw [E2.out, E3.out, H.out]; rfl, HB1.out.trans (pw_below_drewN (Below.refl _ _) _)⟩
  · have h' := eq_false_of_ne_true h
    have E2 : Aside0 (compE xs ys = 2) := ⟨by simp [compE, h']⟩
    have H := Aside0.mk h'
    clear hx hy h h'
    go_enter Try.func66, Try.ntmps66
    go_wp2_with fail
    refine (valid_calls _ _ _ _ _ _ _ (HX.out.below (HB.out _)) (HY.out.below (HB.out _))).mono ?_
    rintro e w1 ⟨rfl, hb1⟩
    rw [show ((isV xs && isV ys) && decide (xs.length = ys.length)) = false from H.out]
    have HB1 := Aside0.mk (below_step (HB.out _) hb1)
    clear hb1
    go_wp2_with fail
    go_ret2
    exact ⟨by rw [E2.out, H.out]; rfl, HB1.out⟩
end
end Go.Proofs.Ytaffdpgacggllaa.V
