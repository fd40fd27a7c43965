/- Contracts of the reference's functions, the sixth part: Left, Right, Resize, ToInt, Of, ToVec. -/
import Derived.Test.YtaffdpgacggllaaVy
namespace Go.Proofs.Ytaffdpgacggllaa.V
open Go.RowKit Go.Proofs.YtaffdpgacggllaaW.PrintWords Go.Proofs.YtaffdpgacggllaaW.PrintLast Go.Proofs.YtaffdpgacggllaaW.PrintMore
attribute [local go_sem] max2_int min2_int max_two min_two
set_option linter.unusedVariables false
set_option linter.unusedSimpArgs false


section
variable (xs : List Int) (A : Option Addr) (c : Nat) (w : World)
theorem keep_zero (l : List Int) (x : Int) (j n : Nat) (hj : j < n) (hx : x = 0) : l ++ List.replicate (n - j) 0 = (l ++ [x]) ++ List.replicate (n - (j + 1)) 0 := by
  subst hx
  rw [show n - j = (n - (j + 1)) + 1 by omega, List.replicate_succ, List.append_assoc]
  rfl
set_option maxRecDepth 100000 in
set_option maxHeartbeats 2000000 in
theorem refLeft_calls (k : Int) (hx : Rd w A xs) (hk : k ≤ 9223372036854775807) :
    Calls Try.prog 38 #[.slice A xs.length c, .int .i64 k] w fun e w' => ∃ v, e = .returned (.tuple #[v, .int .i64 (shiftE xs k)]) ∧ Own w' w.heap.size v (LeftV xs k) ∧ Below w.heap.size w w' := by
  have HX := Aside0.mk hx
  clear hx
  cases h : isV xs
  · have H := Aside0.mk h
    have E1 : Aside0 (LeftV xs k = []) := ⟨by simp [LeftV, h]⟩
    have E2 : Aside0 (shiftE xs k = 2) := ⟨by simp [shiftE, h]⟩
    clear h
    go_enter Try.func38, Try.ntmps38
    go_wp2_with fail
    refine (refIs_calls _ _ _ _ HX.out).mono ?_
    rintro e w1 ⟨rfl, rfl⟩
    rw [H.out]
    go_wp2_with fail
    go_ret2
    exact ⟨_, by rw [E2.out]; rfl, by rw [E1.out]; exact Own.nil _ _, Below.refl _ _⟩
  · by_cases hk0 : 0 ≤ k
    · have H := Aside0.mk h
      have hn1 := (isV_pos h).1
      have h64 := (isV_pos h).2.1
      have E1 : Aside0 (LeftV xs k = movedTo xs (min k 64) xs.length) := ⟨by simp [LeftV, h, hk0, movedV, movedTo]⟩
      have E2 : Aside0 (shiftE xs k = 0) := ⟨by simp [shiftE, h, hk0]⟩
      clear h
      go_enter Try.func38, Try.ntmps38
      go_wp2_with fail
      refine (refIs_calls _ _ _ _ HX.out).mono ?_
      rintro e w1 ⟨rfl, rfl⟩
      rw [H.out]
      go_wp2_with fail
      refine (all_calls 0 xs.length _ (by omega) (by omega) h64).mono ?_
      rintro e w1 ⟨v, rfl, ho, hb⟩
      obtain ⟨g, cap, rfl, hg1, _⟩ := ho.form (by simp; omega)
      rw [List.length_replicate] at ho
      simp only [List.length_replicate]
      have HO := Aside0.mk ho
      have HB := Aside0.mk hb
      clear ho hb
      go_wp2_with fail
      go_loopw [20] (fun i wr => ∃ j : Nat, j ≤ xs.length ∧ i = .int .i64 j ∧ Aside0 (Own wr w.heap.size (.slice (some ⟨g, 0, none⟩) xs.length cap) (movedTo xs (min k 64) j ++ List.replicate (xs.length - j) 0)) ∧ Aside0 (Below w.heap.size w wr)) (fun i _ => xs.length - (intOf i).toNat)
      case atStart => exact ⟨0, Nat.zero_le _, rfl, ⟨by simpa [movedTo] using HO.out⟩, HB⟩
      case round =>
        clear HO HB
        obtain ⟨j, hj, rfl, HO, HB⟩ := hrel
        by_cases hlt : j < xs.length
        · obtain ⟨hc, hf⟩ := HO.out.cell j hlt
          have hbt := byt_moved xs HX.out.b (min k 64) j
          by_cases g0 : k ≤ (j : Int)
          · obtain ⟨q, hq⟩ : ∃ q : Nat, q = ((j : Int) - k).toNat := ⟨_, rfl⟩
            have hqi : (j : Int) - k = (q : Int) := by omega
            obtain ⟨ad, e, hd⟩ := (HX.out.below HB.out).at_ q (by omega)
            have EM : movedAt xs (min k 64) j = nth xs q := by
              unfold movedAt
              rw [if_pos (by omega)]
              congr 1
              omega
            have HBT := Aside0.mk hbt
            have HS : Aside0 (∀ x, (movedTo xs (min k 64) j ++ List.replicate (xs.length - j) 0).set j x = (movedTo xs (min k 64) j ++ [x]) ++ List.replicate (xs.length - (j + 1)) 0) := ⟨fun x => fill_step _ j _ (movedTo_length xs _ j) hlt x⟩
            have HM := Aside0.mk EM
            have HMS := Aside0.mk (movedTo_succ xs (min k 64) j)
            cases e
            clear hbt EM hq
            go_wp2
            go_roundw
            case rel => exact ⟨j + 1, by omega, by go_num, ⟨by rw [HMS.out, ← HS.out, HM.out]; have := HBT.out; rw [HM.out] at this; exact HO.out.put j this.1 this.2⟩, ⟨HB.out.setCell hg1 _⟩⟩
            case measure => simp [intOf]; omega
          · have EM : movedAt xs (min k 64) j = 0 := by
              unfold movedAt
              rw [if_neg (by omega)]
            have HMS := Aside0.mk (movedTo_succ xs (min k 64) j)
            have HZ := Aside0.mk (keep_zero (movedTo xs (min k 64) j) _ j xs.length hlt EM)
            clear hbt EM
            go_wp2
            go_roundw
            case rel => exact ⟨j + 1, by omega, by go_num, ⟨by rw [HMS.out, ← HZ.out]; exact HO.out⟩, HB⟩
            case measure => simp [intOf]; omega
        · have HN : Aside0 (j = xs.length) := ⟨by omega⟩
          go_wp2
          go_ret2
          exact ⟨_, by rw [E2.out]; rfl, by rw [E1.out]; have := HO.out; rw [HN.out] at this; simpa using this, HB.out⟩
    · have hk' : decide (0 ≤ k) = false := by simpa using hk0
      have H := Aside0.mk h
      have E1 : Aside0 (LeftV xs k = []) := ⟨by simp [LeftV, hk']⟩
      have E2 : Aside0 (shiftE xs k = 19) := ⟨by simp [shiftE, h, hk']⟩
      clear h hk'
      go_enter Try.func38, Try.ntmps38
      go_wp2_with fail
      refine (refIs_calls _ _ _ _ HX.out).mono ?_
      rintro e w1 ⟨rfl, rfl⟩
      rw [H.out]
      go_wp2_with fail
      go_ret2
      exact ⟨_, by rw [E2.out]; rfl, by rw [E1.out]; exact Own.nil _ _, Below.refl _ _⟩
set_option maxRecDepth 100000 in
set_option maxHeartbeats 2000000 in
theorem refRight_calls (k : Int) (hx : Rd w A xs) (hk : k ≤ 9223372036854775807) :
    Calls Try.prog 40 #[.slice A xs.length c, .int .i64 k] w fun e w' => ∃ v, e = .returned (.tuple #[v, .int .i64 (shiftE xs k)]) ∧ Own w' w.heap.size v (RightV xs k) ∧ Below w.heap.size w w' := by
  have HX := Aside0.mk hx
  clear hx
  cases h : isV xs
  · have H := Aside0.mk h
    have E1 : Aside0 (RightV xs k = []) := ⟨by simp [RightV, h]⟩
    have E2 : Aside0 (shiftE xs k = 2) := ⟨by simp [shiftE, h]⟩
    clear h
    go_enter Try.func40, Try.ntmps40
    go_wp2_with fail
    refine (refIs_calls _ _ _ _ HX.out).mono ?_
    rintro e w1 ⟨rfl, rfl⟩
    rw [H.out]
    go_wp2_with fail
    go_ret2
    exact ⟨_, by rw [E2.out]; rfl, by rw [E1.out]; exact Own.nil _ _, Below.refl _ _⟩
  · by_cases hk0 : 0 ≤ k
    · have H := Aside0.mk h
      have hn1 := (isV_pos h).1
      have h64 := (isV_pos h).2.1
      have E1 : Aside0 (RightV xs k = movedTo xs (-(min k 64)) xs.length) := ⟨by simp [RightV, h, hk0, movedV, movedTo]⟩
      have E2 : Aside0 (shiftE xs k = 0) := ⟨by simp [shiftE, h, hk0]⟩
      clear h
      go_enter Try.func40, Try.ntmps40
      go_wp2_with fail
      refine (refIs_calls _ _ _ _ HX.out).mono ?_
      rintro e w1 ⟨rfl, rfl⟩
      rw [H.out]
      go_wp2_with fail
      refine (all_calls 0 xs.length _ (by omega) (by omega) h64).mono ?_
      rintro e w1 ⟨v, rfl, ho, hb⟩
      obtain ⟨g, cap, rfl, hg1, _⟩ := ho.form (by simp; omega)
      rw [List.length_replicate] at ho
      simp only [List.length_replicate]
      have HO := Aside0.mk ho
      have HB := Aside0.mk hb
      clear ho hb
      go_wp2_with fail
      go_loopw [20] (fun i wr => ∃ j : Nat, j ≤ xs.length ∧ i = .int .i64 j ∧ Aside0 (Own wr w.heap.size (.slice (some ⟨g, 0, none⟩) xs.length cap) (movedTo xs (-(min k 64)) j ++ List.replicate (xs.length - j) 0)) ∧ Aside0 (Below w.heap.size w wr)) (fun i _ => xs.length - (intOf i).toNat)
      case atStart => exact ⟨0, Nat.zero_le _, rfl, ⟨by simpa [movedTo] using HO.out⟩, HB⟩
      case round =>
        clear HO HB
        obtain ⟨j, hj, rfl, HO, HB⟩ := hrel
        by_cases hlt : j < xs.length
        · obtain ⟨hc, hf⟩ := HO.out.cell j hlt
          have hbt := byt_moved xs HX.out.b (-(min k 64)) j
          by_cases g0 : k < (xs.length : Int) - j
          · obtain ⟨q, hq⟩ : ∃ q : Nat, q = ((j : Int) + k).toNat := ⟨_, rfl⟩
            have hqi : (j : Int) + k = (q : Int) := by omega
            obtain ⟨ad, e, hd⟩ := (HX.out.below HB.out).at_ q (by omega)
            have EM : movedAt xs (-(min k 64)) j = nth xs q := by
              unfold movedAt
              rw [if_pos (by omega)]
              congr 1
              omega
            have HBT := Aside0.mk hbt
            have HS : Aside0 (∀ x, (movedTo xs (-(min k 64)) j ++ List.replicate (xs.length - j) 0).set j x = (movedTo xs (-(min k 64)) j ++ [x]) ++ List.replicate (xs.length - (j + 1)) 0) := ⟨fun x => fill_step _ j _ (movedTo_length xs _ j) hlt x⟩
            have HM := Aside0.mk EM
            have HMS := Aside0.mk (movedTo_succ xs (-(min k 64)) j)
            cases e
            clear hbt EM hq
            go_wp2
            go_roundw
            case rel => exact ⟨j + 1, by omega, by go_num, ⟨by rw [HMS.out, ← HS.out, HM.out]; have := HBT.out; rw [HM.out] at this; exact HO.out.put j this.1 this.2⟩, ⟨HB.out.setCell hg1 _⟩⟩
            case measure => simp [intOf]; omega
          · have EM : movedAt xs (-(min k 64)) j = 0 := by
              unfold movedAt
              rw [if_neg (by omega)]
            have HMS := Aside0.mk (movedTo_succ xs (-(min k 64)) j)
            have HZ := Aside0.mk (keep_zero (movedTo xs (-(min k 64)) j) _ j xs.length hlt EM)
            clear hbt EM
            go_wp2
            go_roundw
            case rel => exact ⟨j + 1, by omega, by go_num, ⟨by rw [HMS.out, ← HZ.out]; exact HO.out⟩, HB⟩
            case measure => simp [intOf]; omega
        · have HN : Aside0 (j = xs.length) := ⟨by omega⟩
          go_wp2
          go_ret2
          exact ⟨_, by rw [E2.out]; rfl, by rw [E1.out]; have := HO.out; rw [HN.out] at this; simpa using this, HB.out⟩
    · have hk' : decide (0 ≤ k) = false := by simpa using hk0
      have H := Aside0.mk h
      have E1 : Aside0 (RightV xs k = []) := ⟨by simp [RightV, hk']⟩
      have E2 : Aside0 (shiftE xs k = 19) := ⟨by simp [shiftE, h, hk']⟩
      clear h hk'
      go_enter Try.func40, Try.ntmps40
      go_wp2_with fail
      refine (refIs_calls _ _ _ _ HX.out).mono ?_
      rintro e w1 ⟨rfl, rfl⟩
      rw [H.out]
      go_wp2_with fail
      go_ret2
      exact ⟨_, by rw [E2.out]; rfl, by rw [E1.out]; exact Own.nil _ _, Below.refl _ _⟩

def nthTo (xs : List Int) (n : Nat) : List Int := (List.range n).map (nth xs)
theorem nthTo_length (n : Nat) : (nthTo xs n).length = n := by simp [nthTo]
theorem nthTo_succ (n : Nat) : nthTo xs (n + 1) = nthTo xs n ++ [nth xs n] := by simp [nthTo, List.range_succ]
theorem nthTo_eq (n : Nat) : nthTo xs n = xs.take n ++ List.replicate (n - xs.length) 0 := by
  induction n with
  | zero => simp [nthTo]
  | succ n ih =>
    rw [nthTo_succ, ih]
    rcases Nat.lt_or_ge n xs.length with h | h
    · rw [show n - xs.length = 0 by omega, show n + 1 - xs.length = 0 by omega, List.take_succ_eq_append_getElem h, nth_eq _ _ h]
      simp
    · rw [List.take_of_length_le h, List.take_of_length_le (by omega), show n + 1 - xs.length = (n - xs.length) + 1 by omega, List.replicate_succ', List.append_assoc]
      congr 2
      simp [nth, List.getD_eq_getElem?_getD, List.getElem?_eq_none h]
set_option maxRecDepth 100000 in
set_option maxHeartbeats 2000000 in
theorem refResize_calls (n : Int) (hx : Rd w A xs) :
    Calls Try.prog 50 #[.slice A xs.length c, .int .i64 n] w fun e w' => ∃ v, e = .returned (.tuple #[v, .int .i64 (resizeE xs n)]) ∧ Own w' w.heap.size v (resizeV xs n) ∧ Below w.heap.size w w' := by
  have HX := Aside0.mk hx
  have hm := hx.le
  clear hx
  cases h : isV xs
  · have H := Aside0.mk h
    have E1 : Aside0 (resizeV xs n = []) := ⟨by simp [resizeV, h]⟩
    have E2 : Aside0 (resizeE xs n = 2) := ⟨by simp [resizeE, h]⟩
    clear h
    go_enter Try.func50, Try.ntmps50
    go_wp2_with fail
    refine (refIs_calls _ _ _ _ HX.out).mono ?_
    rintro e w1 ⟨rfl, rfl⟩
    rw [H.out]
    go_wp2_with fail
    go_ret2
    exact ⟨_, by rw [E2.out]; rfl, by rw [E1.out]; exact Own.nil _ _, Below.refl _ _⟩
  · by_cases hl : 1 ≤ n ∧ n ≤ 64
    · have H := Aside0.mk h
      obtain ⟨m, rfl⟩ := Int.eq_ofNat_of_zero_le (show 0 ≤ n by omega)
      have hl1 : 1 ≤ m := by omega
      have hl2 : m ≤ 64 := by omega
      have hb1 : decide ((m : Int) < 1) = false := by simp; omega
      have K : lenB (m : Int) = true := by simp [lenB]; omega
      have E1 : Aside0 (resizeV xs m = nthTo xs m) := ⟨by rw [nthTo_eq]; simp [resizeV, h, K]⟩
      have E2 : Aside0 (resizeE xs m = 0) := ⟨by simp [resizeE, h, K]⟩
      clear h hl K
      go_enter Try.func50, Try.ntmps50
      go_wp2_with fail
      refine (refIs_calls _ _ _ _ HX.out).mono ?_
      rintro e w1 ⟨rfl, rfl⟩
      rw [H.out]
      go_wp2_with fail
      refine (all_calls 0 m _ (by omega) (by omega) hl2).mono ?_
      rintro e w1 ⟨v, rfl, ho, hb⟩
      obtain ⟨g, cap, rfl, hg1, _⟩ := ho.form (by simp; omega)
      rw [List.length_replicate] at ho
      simp only [List.length_replicate]
      have HO := Aside0.mk ho
      have HB := Aside0.mk hb
      clear ho hb
      go_wp2_with fail
      go_loopw [23] (fun i wr => ∃ j : Nat, j ≤ m ∧ i = .int .i64 j ∧ Aside0 (Own wr w.heap.size (.slice (some ⟨g, 0, none⟩) m cap) (nthTo xs j ++ List.replicate (m - j) 0)) ∧ Aside0 (Below w.heap.size w wr)) (fun i _ => m - (intOf i).toNat)
      case atStart => exact ⟨0, Nat.zero_le _, rfl, ⟨by simpa [nthTo] using HO.out⟩, HB⟩
      case round =>
        clear HO HB
        obtain ⟨j, hj, rfl, HO, HB⟩ := hrel
        by_cases hlt : j < m
        · obtain ⟨hc, hf⟩ := HO.out.cell j hlt
          have HBT := Aside0.mk (HX.out.b.nth j)
          have HMS := Aside0.mk (nthTo_succ xs j)
          by_cases g0 : j < xs.length
          · obtain ⟨ad, e, hd⟩ := (HX.out.below HB.out).at_ j g0
            have HS : Aside0 (∀ x, (nthTo xs j ++ List.replicate (m - j) 0).set j x = (nthTo xs j ++ [x]) ++ List.replicate (m - (j + 1)) 0) := ⟨fun x => fill_step _ j _ (nthTo_length xs j) hlt x⟩
            cases e
            go_wp2
            go_roundw
            case rel => exact ⟨j + 1, by omega, by go_num, ⟨by rw [HMS.out, ← HS.out]; exact HO.out.put j HBT.out.1 HBT.out.2⟩, ⟨HB.out.setCell hg1 _⟩⟩
            case measure => simp [intOf]; omega
          · have HZ := Aside0.mk (keep_zero (nthTo xs j) (nth xs j) j m hlt (by simp [nth, List.getD_eq_getElem?_getD, List.getElem?_eq_none (show xs.length ≤ j by omega)]))
            go_wp2
            go_roundw
            case rel => exact ⟨j + 1, by omega, by go_num, ⟨by rw [HMS.out, ← HZ.out]; exact HO.out⟩, HB⟩
            case measure => simp [intOf]; omega
        · have HN : Aside0 (j = m) := ⟨by omega⟩
          go_wp2
          go_ret2
          exact ⟨_, by rw [E2.out]; rfl, by rw [E1.out]; have := HO.out; rw [HN.out] at this; simpa using this, HB.out⟩
    · have K : lenB n = false := by simp [lenB]; omega
      have H := Aside0.mk h
      have E1 : Aside0 (resizeV xs n = []) := ⟨by simp [resizeV, K]⟩
      have E2 : Aside0 (resizeE xs n = 19) := ⟨by simp [resizeE, h, K]⟩
      clear h K
      by_cases h1 : n < 1
      · have hb : decide (n < 1) = true := by simpa using h1
        clear hl
        go_enter Try.func50, Try.ntmps50
        go_wp2_with fail
        refine (refIs_calls _ _ _ _ HX.out).mono ?_
        rintro e w1 ⟨rfl, rfl⟩
        rw [H.out]
        go_wp2_with fail
        go_ret2
        exact ⟨_, by rw [E2.out]; rfl, by rw [E1.out]; exact Own.nil _ _, Below.refl _ _⟩
      · have hb : decide (n < 1) = false := by simpa using h1
        have hb2 : 64 < n := by omega
        clear hl h1
        go_enter Try.func50, Try.ntmps50
        go_wp2_with fail
        refine (refIs_calls _ _ _ _ HX.out).mono ?_
        rintro e w1 ⟨rfl, rfl⟩
        rw [H.out]
        go_wp2_with fail
        go_ret2
        exact ⟨_, by rw [E2.out]; rfl, by rw [E1.out]; exact Own.nil _ _, Below.refl _ _⟩
end
theorem refOf_calls (k n : Int) (w : World) (k0 : -9223372036854775808 ≤ k) (k1 : k ≤ 9223372036854775807) :
    Calls Try.prog 46 #[.int .i64 k, .int .i64 n] w fun e w' => ∃ v, e = .returned (.tuple #[v, .int .i64 (lenE n 2)]) ∧ Own w' w.heap.size v (ofV k n) ∧ Below w.heap.size w w' := by
  have KR := Aside0.mk (And.intro k0 k1)
  clear k0 k1
  by_cases hl : 1 ≤ n ∧ n ≤ 64
  · obtain ⟨m, rfl⟩ := Int.eq_ofNat_of_zero_le (show 0 ≤ n by omega)
    have hl1 : 1 ≤ m := by omega
    have hl2 : m ≤ 64 := by omega
    have hb1 : decide ((m : Int) < 1) = false := by simp; omega
    have K : lenB (m : Int) = true := by simp [lenB]; omega
    have E1 : Aside0 (ofV k m = bitsOf k m) := ⟨by simp only [ofV, K, if_true, Int.toNat_natCast]; exact bits_wrap k m hl2⟩
    have E2 : Aside0 (lenE m 2 = 0) := ⟨by simp [lenE, K]⟩
    clear hl K
    go_enter Try.func46, Try.ntmps46
    go_wp2_with fail
    refine (bits_calls _ m _ KR.out.1 KR.out.2 hl2).mono ?_
    rintro e w1 ⟨v, rfl, ho, hb⟩
    have HO := Aside0.mk ho
    have HB := Aside0.mk hb
    clear ho hb
    go_wp2_with fail
    go_ret2
    exact ⟨_, by rw [E2.out]; rfl, by rw [E1.out]; exact HO.out, HB.out⟩
  · have K : lenB n = false := by simp [lenB]; omega
    have E1 : Aside0 (ofV k n = []) := ⟨by simp [ofV, K]⟩
    have E2 : Aside0 (lenE n 2 = 2) := ⟨by simp [lenE, K]⟩
    clear K
    by_cases h1 : n < 1
    · have hb : decide (n < 1) = true := by simpa using h1
      clear hl
      go_enter Try.func46, Try.ntmps46
      go_wp2_with fail
      go_ret2
      exact ⟨_, by rw [E2.out]; rfl, by rw [E1.out]; exact Own.nil _ _, Below.refl _ _⟩
    · have hb : decide (n < 1) = false := by simpa using h1
      have hb2 : 64 < n := by omega
      clear hl h1
      go_enter Try.func46, Try.ntmps46
      go_wp2_with fail
      go_ret2
      exact ⟨_, by rw [E2.out]; rfl, by rw [E1.out]; exact Own.nil _ _, Below.refl _ _⟩
theorem refToVec_calls (k n : Int) (w : World) (k0 : -9223372036854775808 ≤ k) (k1 : k ≤ 9223372036854775807) :
    Calls Try.prog 48 #[.int .i64 k, .int .i64 n] w fun e w' => ∃ v, e = .returned (.tuple #[v, .int .i64 (lenE n 19)]) ∧ Own w' w.heap.size v (ofV k n) ∧ Below w.heap.size w w' := by
  have KR := Aside0.mk (And.intro k0 k1)
  clear k0 k1
  by_cases hl : 1 ≤ n ∧ n ≤ 64
  · obtain ⟨m, rfl⟩ := Int.eq_ofNat_of_zero_le (show 0 ≤ n by omega)
    have hl1 : 1 ≤ m := by omega
    have hl2 : m ≤ 64 := by omega
    have hb1 : decide ((m : Int) < 1) = false := by simp; omega
    have K : lenB (m : Int) = true := by simp [lenB]; omega
    have E1 : Aside0 (ofV k m = bitsOf k m) := ⟨by simp only [ofV, K, if_true, Int.toNat_natCast]; exact bits_wrap k m hl2⟩
    have E2 : Aside0 (lenE m 19 = 0) := ⟨by simp [lenE, K]⟩
    clear hl K
    go_enter Try.func48, Try.ntmps48
    go_wp2_with fail
    refine (bits_calls _ m _ KR.out.1 KR.out.2 hl2).mono ?_
    rintro e w1 ⟨v, rfl, ho, hb⟩
    have HO := Aside0.mk ho
    have HB := Aside0.mk hb
    clear ho hb
    go_wp2_with fail
    go_ret2
    exact ⟨_, by rw [E2.out]; rfl, by rw [E1.out]; exact HO.out, HB.out⟩
  · have K : lenB n = false := by simp [lenB]; omega
    have E1 : Aside0 (ofV k n = []) := ⟨by simp [ofV, K]⟩
    have E2 : Aside0 (lenE n 19 = 19) := ⟨by simp [lenE, K]⟩
    clear K
    by_cases h1 : n < 1
    · have hb : decide (n < 1) = true := by simpa using h1
      clear hl
      go_enter Try.func48, Try.ntmps48
      go_wp2_with fail
      go_ret2
      exact ⟨_, by rw [E2.out]; rfl, by rw [E1.out]; exact Own.nil _ _, Below.refl _ _⟩
    · have hb : decide (n < 1) = false := by simpa using h1
      have hb2 : 64 < n := by omega
      clear hl h1
      go_enter Try.func48, Try.ntmps48
      go_wp2_with fail
      go_ret2
      exact ⟨_, by rw [E2.out]; rfl, by rw [E1.out]; exact Own.nil _ _, Below.refl _ _⟩
end Go.Proofs.Ytaffdpgacggllaa.V
