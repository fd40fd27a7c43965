/- Contracts of functions of package vec, the fourth part: sums, products, comparisons. -/
import Derived.Test.YtaffdpgacggllaaVc
namespace Go.Proofs.Ytaffdpgacggllaa.V
open Go.RowKit Go.Proofs.YtaffdpgacggllaaW.PrintWords Go.Proofs.YtaffdpgacggllaaW.PrintLast Go.Proofs.YtaffdpgacggllaaW.PrintMore
set_option linter.unusedVariables false
set_option linter.unusedSimpArgs false

def pairB (xs ys : List Int) : Bool := (isV xs && isV ys) && decide (xs.length = ys.length)
def bothB (xs ys : List Int) : Bool := knownB xs && knownB ys
/-- What an operation with numbers gives, and its error. -/
def compV (g : Int → Int → Int) (xs ys : List Int) : List Int :=
  if pairB xs ys = false then [] else if bothB xs ys = false then List.replicate xs.length 2 else bitsOf (g (num xs) (num ys)) xs.length
def compE (xs ys : List Int) : Int := if pairB xs ys = false then 2 else 0
/-- Function F computes g, on numbers of 64 bits. -/
def Does (F : Nat) (g : Int → Int → Int) : Prop :=
  ∀ (x y : Int) (w : World), 0 ≤ x → x < 18446744073709551616 → 0 ≤ y → y < 18446744073709551616 →
    (0 ≤ g x y ∧ g x y < 18446744073709551616) ∧ Calls Try.prog F #[.int .u64 x, .int .u64 y] w fun e w' => e = .returned (.int .u64 (g x y)) ∧ w = w'

theorem pairB_pos {xs ys : List Int} (h : pairB xs ys = true) : isV xs = true ∧ isV ys = true ∧ xs.length = ys.length := by
  simp only [pairB, Bool.and_eq_true, decide_eq_true_eq] at h
  exact ⟨h.1.1, h.1.2, h.2⟩
theorem num_u64 {xs : List Int} (h0 : Byt xs) (h1 : knownB xs = true) (h2 : xs.length ≤ 64) : 0 ≤ num xs ∧ num xs < 18446744073709551616 := by
  have h := num_bounds xs h0 h1
  have hp : 2 ^ xs.length ≤ 2 ^ 64 := Nat.pow_le_pow_right (by decide) h2
  have hq : ((2 : Int) ^ xs.length) ≤ 18446744073709551616 := by
    have : ((2 ^ xs.length : Nat) : Int) ≤ ((2 ^ 64 : Nat) : Int) := by exact_mod_cast hp
    simpa using this
  omega
theorem bcell {W w1 : World} (hb : Below W.heap.size W w1) : (∀ b o, b < W.heap.size → w1.cell? ⟨b, o, none⟩ = W.cell? ⟨b, o, none⟩) ∧ (∀ b o, b < W.heap.size → w1.frozen? ⟨b, o, none⟩ = W.frozen? ⟨b, o, none⟩) :=
  ⟨fun b o h => hb.cell (p := ⟨b, o, none⟩) h, fun b o h => hb.frozen (p := ⟨b, o, none⟩) h⟩

section
variable (F : Nat) (g : Int → Int → Int) (xs ys : List Int) (A B : Option Addr) (c d : Nat) (w : World)
theorem compute_bad (hx : Rd w A xs) (hy : Rd w B ys) (h : pairB xs ys = false) :
    Calls Try.prog 60 #[.agg #[.slice A xs.length c, .slice B ys.length d], .func (.func F) #[] #[]] w fun e w' => e = .returned (.tuple #[.slice none 0 0, .int .i64 2]) ∧ Below w.heap.size w w' := by
  have HB : Aside0 (∀ o, Below w.heap.size w (w.alloc o)) := ⟨fun o => (Below.refl _ _).alloc (Nat.le_refl _) o⟩
  have HX := Aside0.mk hx
  have HY := Aside0.mk hy
  have H := Aside0.mk h
  clear hx hy h
  go_enter Try.func60, Try.ntmps60
  go_wp2_with fail
  refine (valid_calls _ _ _ _ _ _ _ (HX.out.below (HB.out _)) (HY.out.below (HB.out _))).mono ?_
  rintro e w1 ⟨rfl, hb1⟩
  rw [show ((isV xs && isV ys) && decide (xs.length = ys.length)) = false from H.out]
  have HB1 := Aside0.mk hb1
  clear hb1
  go_wp2_with fail
  go_ret2
  exact ⟨rfl, below_step (HB.out _) HB1.out⟩
theorem compute_x (hx : Rd w A xs) (hy : Rd w B ys) (h : pairB xs ys = true) (hk : bothB xs ys = false) :
    Calls Try.prog 60 #[.agg #[.slice A xs.length c, .slice B ys.length d], .func (.func F) #[] #[]] w fun e w' => ∃ v, e = .returned (.tuple #[v, .int .i64 0]) ∧ Own w' w.heap.size v (List.replicate xs.length 2) ∧ Below w.heap.size w w' := by
  have HB : Aside0 (∀ o, Below w.heap.size w (w.alloc o)) := ⟨fun o => (Below.refl _ _).alloc (Nat.le_refl _) o⟩
  have HX := Aside0.mk hx
  have HY := Aside0.mk hy
  have H := Aside0.mk h
  have hp := isV_pos (pairB_pos h).1
  have hq := isV_pos (pairB_pos h).2.1
  have hn1 := hp.1
  have hn2 := hp.2.1
  have hm1 := hq.1
  clear hx hy h hp hq
  go_enter Try.func60, Try.ntmps60
  go_wp2_with fail
  refine (valid_calls _ _ _ _ _ _ _ (HX.out.below (HB.out _)) (HY.out.below (HB.out _))).mono ?_
  rintro e w1 ⟨rfl, hb1⟩
  rw [show ((isV xs && isV ys) && decide (xs.length = ys.length)) = true from H.out]
  have HB1 := Aside0.mk (below_step (HB.out _) hb1)
  obtain ⟨hc1, hf1⟩ := bcell hb1
  clear hb1
  by_cases hk1 : knownB xs = true
  · have hk2 : knownB ys = false := by simpa [bothB, hk1] using hk
    have K1 := Aside0.mk hk1
    have K2 := Aside0.mk hk2
    clear hk1 hk2 hk
    go_wp2_with fail
    refine (known_calls _ _ _ _ (HX.out.below HB1.out) hn1).mono ?_
    rintro e w2 ⟨rfl, rfl⟩
    rw [K1.out]
    go_wp2_with fail
    refine (known_calls _ _ _ _ (HY.out.below HB1.out) hm1).mono ?_
    rintro e w2 ⟨rfl, rfl⟩
    rw [K2.out]
    go_wp2_with fail
    refine (unknown_calls _ _ hn1 hn2).mono ?_
    rintro e w2 ⟨v, rfl, ho, hb2⟩
    have HO := Aside0.mk ho
    have HB2 := Aside0.mk hb2
    clear ho hb2
    go_wp2_with fail
    go_ret2
    exact ⟨_, rfl, HO.out.lower HB1.out.size, below_step HB1.out HB2.out⟩
  · have hk1' := eq_false_of_ne_true hk1
    have K1 := Aside0.mk hk1'
    clear hk1 hk1' hk
    go_wp2_with fail
    refine (known_calls _ _ _ _ (HX.out.below HB1.out) hn1).mono ?_
    rintro e w2 ⟨rfl, rfl⟩
    rw [K1.out]
    go_wp2_with fail
    refine (unknown_calls _ _ hn1 hn2).mono ?_
    rintro e w2 ⟨v, rfl, ho, hb2⟩
    have HO := Aside0.mk ho
    have HB2 := Aside0.mk hb2
    clear ho hb2
    go_wp2_with fail
    go_ret2
    exact ⟨_, rfl, HO.out.lower HB1.out.size, below_step HB1.out HB2.out⟩
end
end Go.Proofs.Ytaffdpgacggllaa.V
