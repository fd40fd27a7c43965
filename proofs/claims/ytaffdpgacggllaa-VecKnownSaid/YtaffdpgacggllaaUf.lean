/- For the statement VecKnown: Covers, and the pure laws. -/
import Derived.Test.YtaffdpgacggllaaUa
namespace Go.Proofs.Ytaffdpgacggllaa.V
open Go.RowKit Go.Proofs.YtaffdpgacggllaaW.PrintWords Go.Proofs.YtaffdpgacggllaaW.PrintLast Go.Proofs.YtaffdpgacggllaaW.PrintMore
attribute [local go_sem] max2_int min2_int max_two min_two
set_option linter.unusedVariables false
set_option linter.unusedSimpArgs false

section
variable (xs ys : List Int) (A B : Option Addr) (c d : Nat) (w : World)
set_option maxRecDepth 100000 in
set_option maxHeartbeats 2000000 in
theorem refCovers_ok (hx : Rd w A xs) (hy : Rd w B ys) (vx : isV xs = true) (vy : isV ys = true) (hl : xs.length = ys.length) (hc : ∀ i, i < xs.length → nth xs i < 2 → nth ys i = nth xs i) :
    Calls Try.prog 65 #[.slice A xs.length c, .slice B ys.length d] w fun e w' => e = .returned (.tuple #[.bool true, .int .i64 0]) ∧ Below w.heap.size w w' := by
  have HX := Aside0.mk hx
  have HY := Aside0.mk hy
  have VX := Aside0.mk vx
  have VY := Aside0.mk vy
  have hlb : ((xs.length : Int) != (ys.length : Int)) = false := by simp [hl]
  have h64 := (isV_pos vx).2.1
  have HL := Aside0.mk hl
  have HC := Aside0.mk hc
  clear hx hy vx vy hl hc
  go_enter Try.func65, Try.ntmps65
  go_wp2_with fail
  refine (refIs_calls _ _ _ _ HX.out).mono ?_
  rintro e w1 ⟨rfl, rfl⟩
  rw [VX.out]
  go_wp2_with fail
  refine (refIs_calls _ _ _ _ HY.out).mono ?_
  rintro e w1 ⟨rfl, rfl⟩
  rw [VY.out]
  go_wp2_with fail
  go_loopw [24] (fun i wr => ∃ j n : Nat, j ≤ xs.length ∧ i = .int .i64 j ∧ wr = w.drewN n) (fun i _ => xs.length - (intOf i).toNat)
  case atStart => exact ⟨0, 0, Nat.zero_le _, rfl, rfl⟩
  case round =>
    obtain ⟨j, n, hj, rfl, rfl⟩ := hrel
    by_cases hlt : j < xs.length
    · obtain ⟨ad, ea, hcx⟩ := HX.out.at_ j hlt
      cases ea
      obtain ⟨bd, eb, hcy⟩ := HY.out.at_ j (by have := HL.out; omega)
      cases eb
      have hlt2 : j < ys.length := by have := HL.out; omega
      by_cases hb : nth xs j < 2
      · have hm := HC.out j hlt hb
        rw [hm] at hcy
        clear hm
        go_wp2_with fail
        have d1 : decide (nth xs j < 2) = true := decide_eq_true hb
        have d3 : (nth xs j != nth xs j) = false := by simp
        go_quiet (fail)
        go_wp2
        go_roundw
        case rel => exact ⟨j + 1, _, by omega, by go_num, rfl⟩
        case measure => simp [intOf]; omega
      · go_wp2_with fail
        have d1 : decide (nth xs j < 2) = false := decide_eq_false (by omega)
        go_quiet (fail)
        go_wp2
        go_roundw
        case rel => exact ⟨j + 1, _, by omega, by go_num, rfl⟩
        case measure => simp [intOf]; omega
    · go_wp2
      go_ret2
      exact ⟨rfl, below_drewN' _ _⟩
set_option maxRecDepth 100000 in
theorem covers_ok (hx : Rd w A xs) (hy : Rd w B ys) (vx : isV xs = true) (vy : isV ys = true) (hl : xs.length = ys.length) (hc : ∀ i, i < xs.length → nth xs i < 2 → nth ys i = nth xs i) :
    Calls Try.prog 26 #[.slice A xs.length c, .slice B ys.length d] w fun e w' => e = .returned (.bool true) ∧ Below w.heap.size w w' := by
  have HC := Aside0.mk (refCovers_ok xs ys A B c d w hx hy vx vy hl hc)
  clear hx hy vx vy hl hc
  go_enter Try.func26, Try.ntmps26
  go_wp2_with fail
  refine HC.out.mono ?_
  rintro e w1 ⟨rfl, hb⟩
  have HB := Aside0.mk hb
  clear hb
  go_wp2_with fail
  go_ret
  exact ⟨rfl, HB.out⟩
end
section
variable {xs ys vs ws : List Int}
theorem cov_calls (g : Int → Int → Int) (A B : Option Addr) (c d : Nat) (w : World) (p : pairB xs ys = true) (p2 : pairB vs ws = true) (hl : vs.length = xs.length) (hm : bothB xs ys = true → vs = xs ∧ ws = ys)
    (hx : Rd w A (compV g xs ys)) (hy : Rd w B (compV g vs ws)) :
    Calls Try.prog 26 #[.slice A (compV g xs ys).length c, .slice B (compV g vs ws).length d] w fun e w' => e = .returned (.bool true) ∧ Below w.heap.size w w' := by
  refine covers_ok _ _ A B c d w hx hy (compV_isV g p) (compV_isV g p2) (by rw [compV_length g p, compV_length g p2, hl]) fun i hi h2 => ?_
  cases hb : bothB xs ys
  · rw [compV_x g p hb] at h2 hi
    rw [List.length_replicate] at hi
    rw [nth_replicate _ _ _ hi] at h2
    omega
  · obtain ⟨rfl, rfl⟩ := hm hb
    rfl
def mixAt (a c : List Int) (j i : Nat) : Int := if i < j ∧ 1 < nth a i then nth c i else nth a i
def mixUp (a c : List Int) (j : Nat) : List Int := (List.range a.length).map (mixAt a c j)
theorem mixUp_length (a c : List Int) (j : Nat) : (mixUp a c j).length = a.length := by simp [mixUp]
theorem mixUp_nth (a c : List Int) (j i : Nat) (h : i < a.length) : nth (mixUp a c j) i = mixAt a c j i := by
  rw [nth_eq _ _ (by rw [mixUp_length]; exact h)]; simp [mixUp]
theorem mix_ext {l m : List Int} (h : l.length = m.length) (k : ∀ i, i < l.length → nth l i = nth m i) : l = m := by
  refine List.ext_getElem h fun i h1 h2 => ?_
  have := k i h1
  rwa [nth_eq _ _ h1, nth_eq _ _ h2] at this
theorem mixUp_zero (a c : List Int) : mixUp a c 0 = a :=
  mix_ext (mixUp_length a c 0) fun i hi => by
    rw [mixUp_length] at hi
    rw [mixUp_nth _ _ _ _ hi]; simp [mixAt]
theorem mixUp_keep (a c : List Int) (j : Nat) (h : ¬ 1 < nth a j) : mixUp a c (j + 1) = mixUp a c j :=
  mix_ext (by rw [mixUp_length, mixUp_length]) fun i hi => by
    rw [mixUp_length] at hi
    rw [mixUp_nth _ _ _ _ hi, mixUp_nth _ _ _ _ hi]
    unfold mixAt
    by_cases e : i = j
    · subst e; simp [h]
    · have : i < j + 1 ↔ i < j := by omega
      simp only [this]
theorem mixUp_set (a c : List Int) (j : Nat) (h : 1 < nth a j) : (mixUp a c j).set j (nth c j) = mixUp a c (j + 1) :=
  mix_ext (by rw [List.length_set, mixUp_length, mixUp_length]) fun i hi => by
    rw [List.length_set, mixUp_length] at hi
    rw [mixUp_nth _ _ _ _ hi, nth_eq _ _ (by rw [List.length_set, mixUp_length]; exact hi), List.getElem_set]
    unfold mixAt
    by_cases e : j = i
    · subst e; simp [h]
    · have : i < j + 1 ↔ i < j := by omega
      rw [if_neg e, ← nth_eq _ _ (by rw [mixUp_length]; exact hi), mixUp_nth _ _ _ _ hi]
      unfold mixAt
      simp only [this]
theorem mixUp_at (a c : List Int) (j : Nat) (h : j < a.length) : nth (mixUp a c j) j = nth a j := by
  rw [mixUp_nth _ _ _ _ h]; simp [mixAt]
theorem mixUp_known (a c : List Int) (j : Nat) (h : knownB a = true) : mixUp a c j = a :=
  mix_ext (mixUp_length a c j) fun i hi => by
    rw [mixUp_length] at hi
    rw [mixUp_nth _ _ _ _ hi]
    have := known_le h i
    unfold mixAt
    rw [if_neg (by omega)]
theorem mixUp_isV (a c : List Int) (j : Nat) (ha : isV a = true) (hc : isV c = true) : isV (mixUp a c j) = true := by
  have l := isV_pos ha
  have e : (mixUp a c j).all isBit = true := by
    rw [List.all_eq_true]
    intro x hx
    simp only [mixUp, List.mem_map] at hx
    obtain ⟨i, _, rfl⟩ := hx
    have h1 := isV_bit ha i
    have h2 := isV_bit hc i
    unfold mixAt
    split <;> simpa [isBit]
  simp only [isV, mixUp_length, e, Bool.and_true, Bool.and_eq_true, decide_eq_true_eq]
  omega
theorem Own.apart {w : World} {base g n cap g2 k : Nat} {xs : List Int} (h : Own w base (.slice (some ⟨g, 0, none⟩) n cap) xs) (hne : g ≠ g2) (u : Value) : Own (w.setCell ⟨g2, k, none⟩ u) base (.slice (some ⟨g, 0, none⟩) n cap) xs := by
  obtain ⟨cur, h0, h1, h2, h3, h4, h5, h6⟩ := h.block
  exact Own.of_block (by rw [Below.heap_setCell _ _ _ _ hne]; exact h0) h1 h2 h3 h4 h5 h6 h.b
theorem Own.reads_here {w : World} {base g n cap : Nat} {xs : List Int} (h : Own w base (.slice (some ⟨g, 0, none⟩) n cap) xs) : Rd w (some ⟨g, 0, none⟩) xs := by
  obtain ⟨A, c, e, _, hr⟩ := h.reads
  injection e with e1 e2 e3
  subst e1
  exact hr
end
end Go.Proofs.Ytaffdpgacggllaa.V
