/- Contracts of functions of package vec, the tenth part: Clone, Slice, Grow, Concat, Cat. -/
import Derived.Test.YtaffdpgacggllaaVi
import Derived.WalkSpells
namespace Go.Proofs.Ytaffdpgacggllaa.V
open Go.RowKit Go.Proofs.YtaffdpgacggllaaW.PrintWords Go.Proofs.YtaffdpgacggllaaW.PrintLast Go.Proofs.YtaffdpgacggllaaW.PrintMore
attribute [local go_sem] max2_int min2_int max_two min_two
set_option linter.unusedVariables false
set_option linter.unusedSimpArgs false

theorem Own.empty (w : World) : Own (w.alloc (.cells #[] 37)) w.heap.size (.slice (some ⟨w.heap.size, 0, none⟩) 0 0) [] := by
  refine Own.of_block (cur := []) ?_ (Nat.le_refl _) (Nat.zero_le _) rfl rfl rfl (Nat.le_refl _) Byt.nil
  show (w.heap.push _)[w.heap.size]? = _
  rw [Array.getElem?_push_size]
theorem Rd.sub {w : World} {ad : Addr} {xs : List Int} (h : Rd w (some ad) xs) (l m : Nat) (hl : l + m ≤ xs.length) : Rd w (some (ad.add l)) ((xs.drop l).take m) := by
  refine ⟨⟨rfl, by have := h.le; simp; omega, fun _ => ⟨_, rfl, fun j p hj => ⟨[.int .u8 p], rfl, rfl, fun i u hu => ?_⟩⟩⟩, h.b.sub fun y hy => List.mem_of_mem_drop (List.mem_of_mem_take hy)⟩
  obtain ⟨rfl, rfl⟩ : i = 0 ∧ u = .int .u8 p := by
    rcases i with _ | i
    · simp at hu; exact ⟨rfl, hu.symm⟩
    · simp at hu
  have hjl := (List.getElem?_eq_some_iff.1 hj).1
  simp only [List.length_take, List.length_drop] at hjl
  obtain ⟨ad2, e, hc⟩ := h.at_ (l + j) (by omega)
  cases e
  have e1 : nth xs (l + j) = p := by
    rw [List.getElem?_take_of_lt (by omega), List.getElem?_drop] at hj
    simp [nth, List.getD_eq_getElem?_getD, hj]
  rw [e1] at hc
  simp only [Kd.int, Kd.scalar, Nat.mul_one, Nat.add_zero]
  rwa [show (ad.add l).add j = ad.add (l + j) from ?_]
  unfold Addr.add
  by_cases h0 : l = 0
  · subst h0; simp
  · by_cases h1 : j = 0
    · subst h1; simp [h0]
    · simp [h0, h1, Nat.add_assoc]

section
variable (xs : List Int) (w : World)
set_option maxRecDepth 100000 in
theorem clone_calls (ad : Addr) (c : Nat) (hx : Rd w (some ad) xs) (h64 : xs.length ≤ 64) :
    Calls Try.prog 86 #[.slice (some ad) xs.length c] w fun e w' => ∃ v, e = .returned v ∧ Own w' w.heap.size v xs ∧ Below w.heap.size w w' := by
  have HX := Aside0.mk hx
  have HB := Aside0.mk ((Below.refl w.heap.size w).alloc (Nat.le_refl _) (.cells #[] 37))
  have HO := Aside0.mk (Own.empty w)
  have he : (binOp .eql 29 (.slice (some ad) xs.length c) (.slice none 0 0)).run Try.prog w = .ok (.bool false) w := Lib.run_eql_slice_nil w 29 37 (some ad) xs.length c 0 0 Try.underlying29
  clear hx
  go_enter Try.func86, Try.ntmps86
  go_wp2_with (at_builtin; refine ap_bits (w0 := w) rfl (.tmp 5) (.tmp 6) 29 rfl Try.underlying29 (.slice (some ⟨w.heap.size, 0, none⟩) 0 0) [] xs (some ad) c rfl rfl HO.out (HX.out.below HB.out) HB.out (by simp; omega) ?_; intro v1 w1 ho hb; rw [List.nil_append] at ho; clear HO HB; have HO := Aside0.mk ho; have HB := Aside0.mk hb; clear ho hb)
  go_ret
  exact ⟨_, rfl, HO.out, HB.out⟩
def inB (n h l : Int) : Bool := decide (0 ≤ l) && (decide (l ≤ h) && decide (h < n))
theorem isSlice_calls (A : Option Addr) (c : Nat) (h l : Int) :
    Calls Try.prog 85 #[.slice A xs.length c, .int .i64 h, .int .i64 l] w fun e w' => e = .returned (.bool (inB xs.length h l)) ∧ w = w' := by
  by_cases h1 : 0 ≤ l
  · by_cases h2 : l ≤ h
    · have E : Aside0 (inB xs.length h l = decide (h < xs.length)) := ⟨by simp [inB, h1, h2]⟩
      go_enter Try.func85, Try.ntmps85
      go_wp2
      go_ret
      exact ⟨ret_bool (by rw [E.out]), rfl⟩
    · have h2' : decide (l ≤ h) = false := by simpa using h2
      have E : Aside0 (inB xs.length h l = false) := ⟨by simp [inB, h2']⟩
      go_enter Try.func85, Try.ntmps85
      go_wp2
      go_ret
      exact ⟨ret_bool (by rw [E.out]), rfl⟩
  · have h1' : decide (0 ≤ l) = false := by simpa using h1
    have E : Aside0 (inB xs.length h l = false) := ⟨by simp [inB, h1']⟩
    go_enter Try.func85, Try.ntmps85
    go_wp2
    go_ret
    exact ⟨ret_bool (by rw [E.out]), rfl⟩
def sliceV (xs : List Int) (h l : Int) : List Int := if isV xs && inB xs.length h l then (xs.drop l.toNat).take ((h + 1).toNat - l.toNat) else []
def sliceE (xs : List Int) (h l : Int) : Int := if isV xs = false then 2 else if inB xs.length h l = false then 19 else 0
set_option maxRecDepth 100000 in
theorem vecSlice_calls (A : Option Addr) (c : Nat) (h l : Int) (hx : Rd w A xs) (hc : xs.length ≤ c) :
    Calls Try.prog 53 #[.slice A xs.length c, .int .i64 h, .int .i64 l] w fun e w' => ∃ v, e = .returned (.tuple #[v, .int .i64 (sliceE xs h l)]) ∧ Own w' w.heap.size v (sliceV xs h l) ∧ Below w.heap.size w w' := by
  have HX := Aside0.mk hx
  clear hx
  by_cases hv : isV xs = true
  · by_cases hi : inB xs.length h l = true
    · have H := Aside0.mk hv
      have K := Aside0.mk hi
      have hn := isV_pos hv
      have hn1 := hn.1
      have hn2 := hn.2.1
      have hi2 : 0 ≤ l ∧ l ≤ h ∧ h < xs.length := by simpa [inB] using hi
      obtain ⟨m, rfl⟩ := Int.eq_ofNat_of_zero_le hi2.1
      obtain ⟨n, rfl⟩ := Int.eq_ofNat_of_zero_le (show 0 ≤ h by omega)
      have hmn : m ≤ n := by omega
      have hnx : n + 1 ≤ xs.length := by omega
      have E1 : Aside0 (sliceV xs n m = (xs.drop m).take (n + 1 - m)) := ⟨by simp only [sliceV, hv, hi]; simp⟩
      have E2 : Aside0 (sliceE xs n m = 0) := ⟨by simp [sliceE, hv, hi]⟩
      obtain ⟨ad, e, _⟩ := HX.out.at_ 0 (by omega)
      cases e
      have hcm : ¬ c = m := by omega
      have hcn : n + 1 ≤ c := by omega
      have hmc : m ≤ n + 1 := by omega
      have HS := Aside0.mk (HX.out.sub m (n + 1 - m) (by omega))
      have hlen : ((xs.drop m).take (n + 1 - m)).length = n + 1 - m := by simp; omega
      have HL := Aside0.mk hlen
      clear hv hi hn hi2 hlen
      go_enter Try.func53, Try.ntmps53
      go_wp2_with fail
      refine (logicIs_calls _ _ _ _ HX.out).mono ?_
      rintro e w1 ⟨rfl, rfl⟩
      rw [H.out]
      go_wp2_with fail
      refine (isSlice_calls _ _ _ _ _ _).mono ?_
      rintro e w1 ⟨rfl, rfl⟩
      rw [K.out]
      go_wp2_with fail
      have hcl := clone_calls _ w _ (c - m) HS.out (by have := HL.out; omega)
      rw [HL.out] at hcl
      refine hcl.mono ?_
      rintro e w1 ⟨v, rfl, ho, hb⟩
      have HO := Aside0.mk ho
      have HB := Aside0.mk hb
      clear ho hb hcl
      go_wp2_with fail
      go_ret2
      exact ⟨_, by rw [E2.out]; rfl, by rw [E1.out]; exact HO.out, HB.out⟩
    · have hi' := eq_false_of_ne_true hi
      have H := Aside0.mk hv
      have K := Aside0.mk hi'
      have E1 : Aside0 (sliceV xs h l = []) := ⟨by simp [sliceV, hi']⟩
      have E2 : Aside0 (sliceE xs h l = 19) := ⟨by simp [sliceE, hv, hi']⟩
      clear hv hi hi'
      go_enter Try.func53, Try.ntmps53
      go_wp2_with fail
      refine (logicIs_calls _ _ _ _ HX.out).mono ?_
      rintro e w1 ⟨rfl, rfl⟩
      rw [H.out]
      go_wp2_with fail
      refine (isSlice_calls _ _ _ _ _ _).mono ?_
      rintro e w1 ⟨rfl, rfl⟩
      rw [K.out]
      go_wp2_with fail
      go_ret2
      exact ⟨_, by rw [E2.out]; rfl, by rw [E1.out]; exact Own.nil _ _, Below.refl _ _⟩
  · have hv' := eq_false_of_ne_true hv
    have H := Aside0.mk hv'
    have E1 : Aside0 (sliceV xs h l = []) := ⟨by simp [sliceV, hv']⟩
    have E2 : Aside0 (sliceE xs h l = 2) := ⟨by simp [sliceE, hv']⟩
    clear hv hv'
    go_enter Try.func53, Try.ntmps53
    go_wp2_with fail
    refine (logicIs_calls _ _ _ _ HX.out).mono ?_
    rintro e w1 ⟨rfl, rfl⟩
    rw [H.out]
    go_wp2_with fail
    go_ret2
    exact ⟨_, by rw [E2.out]; rfl, by rw [E1.out]; exact Own.nil _ _, Below.refl _ _⟩
end
end Go.Proofs.Ytaffdpgacggllaa.V
