/- Contracts of the reference's functions, the seventh part: Cat, Slice, Put. -/
import Derived.Test.YtaffdpgacggllaaUa
namespace Go.Proofs.Ytaffdpgacggllaa.V
open Go.RowKit Go.Proofs.YtaffdpgacggllaaW.PrintWords Go.Proofs.YtaffdpgacggllaaW.PrintLast Go.Proofs.YtaffdpgacggllaaW.PrintMore
attribute [local go_sem] max2_int min2_int max_two min_two
set_option linter.unusedVariables false
set_option linter.unusedSimpArgs false
section
variable (xs ys : List Int) (A B : Option Addr) (c d : Nat) (w : World)
set_option maxRecDepth 100000 in
set_option maxHeartbeats 2000000 in
theorem refCat_calls (hx : Rd w A xs) (hy : Rd w B ys) :
    Calls Try.prog 52 #[.slice A xs.length c, .slice B ys.length d] w fun e w' => ∃ v, e = .returned (.tuple #[v, .int .i64 (catE xs ys)]) ∧ Own w' w.heap.size v (catV xs ys) ∧ Below w.heap.size w w' := by
  have HX := Aside0.mk hx
  have HY := Aside0.mk hy
  have HB := Aside0.mk ((Below.refl w.heap.size w).alloc (Nat.le_refl _) (.cells #[] 37))
  have HO := Aside0.mk (Own.empty w)
  clear hx hy
  cases h : isV xs
  · have H := Aside0.mk h
    have E1 : Aside0 (catV xs ys = []) := ⟨by simp [catV, h]⟩
    have E2 : Aside0 (catE xs ys = 2) := ⟨by simp [catE, h]⟩
    clear h HB HO
    go_enter Try.func52, Try.ntmps52
    go_wp2_with fail
    refine (refIs_calls _ _ _ _ HX.out).mono ?_
    rintro e w1 ⟨rfl, rfl⟩
    rw [H.out]
    go_wp2_with fail
    go_ret2
    exact ⟨_, by rw [E2.out]; rfl, by rw [E1.out]; exact Own.nil _ _, Below.refl _ _⟩
  · cases k : isV ys
    · have H := Aside0.mk h
      have K := Aside0.mk k
      have E1 : Aside0 (catV xs ys = []) := ⟨by simp [catV, k]⟩
      have E2 : Aside0 (catE xs ys = 2) := ⟨by simp [catE, k]⟩
      clear h k HB HO
      go_enter Try.func52, Try.ntmps52
      go_wp2_with fail
      refine (refIs_calls _ _ _ _ HX.out).mono ?_
      rintro e w1 ⟨rfl, rfl⟩
      rw [H.out]
      go_wp2_with fail
      refine (refIs_calls _ _ _ _ HY.out).mono ?_
      rintro e w1 ⟨rfl, rfl⟩
      rw [K.out]
      go_wp2_with fail
      go_ret2
      exact ⟨_, by rw [E2.out]; rfl, by rw [E1.out]; exact Own.nil _ _, Below.refl _ _⟩
    · have hn := (isV_pos h).2.1
      have hm := (isV_pos k).2.1
      have H := Aside0.mk h
      have K := Aside0.mk k
      by_cases l : xs.length + ys.length ≤ 64
      · have E1 : Aside0 (catV xs ys = ys ++ xs) := ⟨by simp [catV, h, k, l]⟩
        have E2 : Aside0 (catE xs ys = 0) := ⟨by simp [catE, h, k, l]⟩
        have l2 : ¬ 64 < (xs.length : Int) + ys.length := by omega
        clear h k
        go_enter Try.func52, Try.ntmps52
        go_wp2_with fail
        refine (refIs_calls _ _ _ _ HX.out).mono ?_
        rintro e w1 ⟨rfl, rfl⟩
        rw [H.out]
        go_wp2_with fail
        refine (refIs_calls _ _ _ _ HY.out).mono ?_
        rintro e w1 ⟨rfl, rfl⟩
        rw [K.out]
        go_wp2_with (first | (at_builtin; refine ap_bits (w0 := w) rfl (.tmp 22) (.tmp 23) 29 rfl Try.underlying29 (.slice (some ⟨w.heap.size, 0, none⟩) 0 0) [] ys _ _ rfl rfl HO.out (HY.out.below HB.out) HB.out (by simp; omega) ?_; intro v1 w1 ho hb; rw [List.nil_append] at ho; clear HO HB; have HO := Aside0.mk ho; have HB := Aside0.mk hb; clear ho hb) | (at_builtin; refine ap_bits (w0 := w) rfl (.tmp 24) (.tmp 25) 29 rfl Try.underlying29 _ ys xs _ _ rfl rfl HO.out (HX.out.below HB.out) HB.out (by omega) ?_; intro v1 w1 ho hb; clear HO HB; have HO := Aside0.mk ho; have HB := Aside0.mk hb; clear ho hb))
        go_ret2
        exact ⟨_, by rw [E2.out]; rfl, by rw [E1.out]; exact HO.out, HB.out⟩
      · have E1 : Aside0 (catV xs ys = []) := ⟨by simp [catV, l]⟩
        have E2 : Aside0 (catE xs ys = 19) := ⟨by simp [catE, h, k, l]⟩
        have l2 : 64 < (xs.length : Int) + ys.length := by omega
        clear h k HB HO
        go_enter Try.func52, Try.ntmps52
        go_wp2_with fail
        refine (refIs_calls _ _ _ _ HX.out).mono ?_
        rintro e w1 ⟨rfl, rfl⟩
        rw [H.out]
        go_wp2_with fail
        refine (refIs_calls _ _ _ _ HY.out).mono ?_
        rintro e w1 ⟨rfl, rfl⟩
        rw [K.out]
        go_wp2_with fail
        go_ret2
        exact ⟨_, by rw [E2.out]; rfl, by rw [E1.out]; exact Own.nil _ _, Below.refl _ _⟩
set_option maxRecDepth 100000 in
set_option maxHeartbeats 2000000 in
theorem refSlice_calls (h l : Int) (hx : Rd w A xs) (hc : xs.length ≤ c) :
    Calls Try.prog 54 #[.slice A xs.length c, .int .i64 h, .int .i64 l] w fun e w' => ∃ v, e = .returned (.tuple #[v, .int .i64 (sliceE xs h l)]) ∧ Own w' w.heap.size v (sliceV xs h l) ∧ Below w.heap.size w w' := by
  have HX := Aside0.mk hx
  have HB := Aside0.mk ((Below.refl w.heap.size w).alloc (Nat.le_refl _) (.cells #[] 37))
  have HO := Aside0.mk (Own.empty w)
  clear hx
  cases hv : isV xs
  · have H := Aside0.mk hv
    have E1 : Aside0 (sliceV xs h l = []) := ⟨by simp [sliceV, hv]⟩
    have E2 : Aside0 (sliceE xs h l = 2) := ⟨by simp [sliceE, hv]⟩
    clear hv HB HO
    go_enter Try.func54, Try.ntmps54
    go_wp2_with fail
    refine (refIs_calls _ _ _ _ HX.out).mono ?_
    rintro e w1 ⟨rfl, rfl⟩
    rw [H.out]
    go_wp2_with fail
    go_ret2
    exact ⟨_, by rw [E2.out]; rfl, by rw [E1.out]; exact Own.nil _ _, Below.refl _ _⟩
  · cases hi : inB xs.length h l
    · have H := Aside0.mk hv
      have K := Aside0.mk hi
      have E1 : Aside0 (sliceV xs h l = []) := ⟨by simp [sliceV, hi]⟩
      have E2 : Aside0 (sliceE xs h l = 19) := ⟨by simp [sliceE, hv, hi]⟩
      clear hv hi HB HO
      go_enter Try.func54, Try.ntmps54
      go_wp2_with fail
      refine (refIs_calls _ _ _ _ HX.out).mono ?_
      rintro e w1 ⟨rfl, rfl⟩
      rw [H.out]
      go_wp2_with fail
      refine (within_calls _ _ _ _).mono ?_
      rintro e w1 ⟨rfl, rfl⟩
      rw [K.out]
      go_wp2_with fail
      go_ret2
      exact ⟨_, by rw [E2.out]; rfl, by rw [E1.out]; exact Own.nil _ _, Below.refl _ _⟩
    · have H := Aside0.mk hv
      have K := Aside0.mk hi
      have hn := isV_pos hv
      have hn1 := hn.1
      have hn2 := hn.2.1
      have hi2 : 0 ≤ l ∧ l ≤ h ∧ h < xs.length := by simpa [inB] using hi
      obtain ⟨m, rfl⟩ := Int.eq_ofNat_of_zero_le hi2.1
      obtain ⟨n, rfl⟩ := Int.eq_ofNat_of_zero_le (show 0 ≤ h by omega)
      have hmn : m ≤ n := by omega
      have hnx : n + 1 ≤ xs.length := by omega
      have E1 : Aside0 (sliceV xs n m = (xs.drop m).take (n + 1 - m)) := ⟨by simp only [sliceV, hv, hi]; simp⟩
      have E2 : Aside0 (sliceE xs n m = 0) := ⟨by simp [sliceE, hv, hi]⟩
      obtain ⟨ad, e, _⟩ := HX.out.at_ 0 (by omega)
      cases e
      have hcm : ¬ c = m := by omega
      have hcn : n + 1 ≤ c := by omega
      have hmc : m ≤ n + 1 := by omega
      have HS := Aside0.mk (HX.out.sub m (n + 1 - m) (by omega))
      have hlen : ((xs.drop m).take (n + 1 - m)).length = n + 1 - m := by simp; omega
      have HL := Aside0.mk hlen
      clear hv hi hn hi2 hlen
      go_enter Try.func54, Try.ntmps54
      go_wp2_with fail
      refine (refIs_calls _ _ _ _ HX.out).mono ?_
      rintro e w1 ⟨rfl, rfl⟩
      rw [H.out]
      go_wp2_with fail
      refine (within_calls _ _ _ _).mono ?_
      rintro e w1 ⟨rfl, rfl⟩
      rw [K.out]
      go_wp2_with (at_builtin; refine ap_bits (w0 := w) rfl (.tmp 19) (.tmp 24) 29 rfl Try.underlying29 (.slice (some ⟨w.heap.size, 0, none⟩) 0 0) [] ((xs.drop m).take (n + 1 - m)) (some (ad.add m)) (c - m) rfl (by rw [HL.out]; rfl) HO.out (HS.out.below HB.out) HB.out (by rw [HL.out]; simp; omega) ?_; intro v1 w1 ho hb; rw [List.nil_append] at ho; clear HO HB; have HO := Aside0.mk ho; have HB := Aside0.mk hb; clear ho hb)
      go_ret2
      exact ⟨_, by rw [E2.out]; rfl, by rw [E1.out]; exact HO.out, HB.out⟩
end
set_option maxRecDepth 100000 in
set_option maxHeartbeats 1000000 in
theorem refPut_calls (xs ws : List Int) (A B : Option Addr) (c d : Nat) (h l : Int) (w : World) (hx : Rd w A xs) (hw : Rd w B ws) (hc : xs.length ≤ c) :
    Calls Try.prog 56 #[.slice A xs.length c, .int .i64 h, .int .i64 l, .slice B ws.length d] w fun e w' => ∃ v, e = .returned (.tuple #[v, .int .i64 (putE xs h l ws)]) ∧ Own w' w.heap.size v (putV xs h l ws) ∧ Below w.heap.size w w' := by
  have HX := Aside0.mk hx
  have HW := Aside0.mk hw
  have hle := hw.le
  clear hx hw
  by_cases v1 : isV xs = true
  · by_cases v2 : isV ws = true
    · by_cases hi : inB xs.length h l = true
      · have hn := isV_pos v1
        have hn1 := hn.1
        have hn2 := hn.2.1
        have hm := isV_pos v2
        have hm1 := hm.1
        have hm2 := hm.2.1
        have hi2 : 0 ≤ l ∧ l ≤ h ∧ h < xs.length := by simpa [inB] using hi
        obtain ⟨m, rfl⟩ := Int.eq_ofNat_of_zero_le hi2.1
        obtain ⟨n, rfl⟩ := Int.eq_ofNat_of_zero_le (show 0 ≤ h by omega)
        have hmn : m ≤ n := by omega
        have hnx : n + 1 ≤ xs.length := by omega
        by_cases hl : (ws.length : Int) = n - m + 1
        · have V1 := Aside0.mk v1
          have V2 := Aside0.mk v2
          have HI := Aside0.mk hi
          have E1 : Aside0 (putV xs n m ws = xs.take m ++ ws ++ xs.drop (m + ws.length)) := ⟨by simp only [putV, v1, v2, hi, hl]; simp⟩
          have E2 : Aside0 (putE xs n m ws = 0) := ⟨by simp only [putE, v1, v2, hi, hl]; simp⟩
          have hlb : ((ws.length : Int) != (n : Int) - m + 1) = false := by simp [hl]
          have HL := Aside0.mk hl
          obtain ⟨ad, e, _⟩ := HX.out.at_ 0 (by omega)
          cases e
          have HB := Aside0.mk ((Below.refl w.heap.size w).alloc (Nat.le_refl _) (.cells #[] 37))
          have HO := Aside0.mk (Own.empty w)
          have HT := Aside0.mk (HX.out.sub 0 m (by omega))
          have ht : ((xs.drop 0).take m).length = m := by simp; omega
          have HTL := Aside0.mk ht
          have hmc : m ≤ c := by omega
          have hnc : n + 1 ≤ c := by omega
          clear v1 v2 hi hn hm hi2 hl ht
          by_cases hend : n + 1 = xs.length
          · have EE : Aside0 (xs.drop (m + ws.length) = []) := ⟨List.drop_of_length_le (by have := HL.out; omega)⟩
            by_cases hcn : c = n + 1
            · skip
              go_enter Try.func56, Try.ntmps56
              go_wp2_with fail
              refine (refIs_calls _ _ _ _ HX.out).mono ?_
              rintro e w1 ⟨rfl, rfl⟩
              rw [V1.out]
              go_wp2_with fail
              refine (refIs_calls _ _ _ _ HW.out).mono ?_
              rintro e w1 ⟨rfl, rfl⟩
              rw [V2.out]
              go_wp2_with fail
              refine (within_calls _ _ _ _).mono ?_
              rintro e w1 ⟨rfl, rfl⟩
              rw [HI.out]
              go_wp2_with (first | (at_builtin; refine ap_bits (w0 := w) rfl (.tmp 35) (.tmp 38) 29 rfl Try.underlying29 (.slice (some ⟨w.heap.size, 0, none⟩) 0 0) [] ((xs.drop 0).take m) (some (ad.add 0)) _ rfl (by rw [HTL.out]; rfl) HO.out (HT.out.below HB.out) HB.out (by simp; omega) ?_; intro v1 w1 ho hb; rw [List.nil_append] at ho; clear HO HB; have HO := Aside0.mk ho; have HB := Aside0.mk hb; clear ho hb) | (at_builtin; refine ap_bits (w0 := w) rfl (.tmp 40) (.tmp 41) 29 rfl Try.underlying29 _ ((xs.drop 0).take m) ws B d rfl (rfl) HO.out (HW.out.below HB.out) HB.out (by simp; omega) ?_; intro v1 w1 ho hb; clear HO HB; have HO := Aside0.mk ho; have HB := Aside0.mk hb; clear ho hb) | (at_builtin; refine ap_bits (w0 := w) rfl (.tmp 43) (.tmp 47) 29 rfl Try.underlying29 _ ((xs.drop 0).take m ++ ws) [] _ _ rfl (rfl) HO.out (Rd.nil _ _) HB.out (by simp; omega) ?_; intro v1 w1 ho hb; rw [List.append_nil] at ho; clear HO HB; have HO := Aside0.mk ho; have HB := Aside0.mk hb; clear ho hb))
              go_ret2
              exact ⟨_, by rw [E2.out]; rfl, by rw [E1.out, EE.out, List.append_nil]; exact HO.out, HB.out⟩
            · skip
              go_enter Try.func56, Try.ntmps56
              go_wp2_with fail
              refine (refIs_calls _ _ _ _ HX.out).mono ?_
              rintro e w1 ⟨rfl, rfl⟩
              rw [V1.out]
              go_wp2_with fail
              refine (refIs_calls _ _ _ _ HW.out).mono ?_
              rintro e w1 ⟨rfl, rfl⟩
              rw [V2.out]
              go_wp2_with fail
              refine (within_calls _ _ _ _).mono ?_
              rintro e w1 ⟨rfl, rfl⟩
              rw [HI.out]
              go_wp2_with (first | (at_builtin; refine ap_bits (w0 := w) rfl (.tmp 35) (.tmp 38) 29 rfl Try.underlying29 (.slice (some ⟨w.heap.size, 0, none⟩) 0 0) [] ((xs.drop 0).take m) (some (ad.add 0)) _ rfl (by rw [HTL.out]; rfl) HO.out (HT.out.below HB.out) HB.out (by simp; omega) ?_; intro v1 w1 ho hb; rw [List.nil_append] at ho; clear HO HB; have HO := Aside0.mk ho; have HB := Aside0.mk hb; clear ho hb) | (at_builtin; refine ap_bits (w0 := w) rfl (.tmp 40) (.tmp 41) 29 rfl Try.underlying29 _ ((xs.drop 0).take m) ws B d rfl (rfl) HO.out (HW.out.below HB.out) HB.out (by simp; omega) ?_; intro v1 w1 ho hb; clear HO HB; have HO := Aside0.mk ho; have HB := Aside0.mk hb; clear ho hb) | (at_builtin; refine ap_bits (w0 := w) rfl (.tmp 43) (.tmp 47) 29 rfl Try.underlying29 _ ((xs.drop 0).take m ++ ws) [] _ _ rfl (rfl) HO.out (Rd.nil _ _) HB.out (by simp; omega) ?_; intro v1 w1 ho hb; rw [List.append_nil] at ho; clear HO HB; have HO := Aside0.mk ho; have HB := Aside0.mk hb; clear ho hb))
              go_ret2
              exact ⟨_, by rw [E2.out]; rfl, by rw [E1.out, EE.out, List.append_nil]; exact HO.out, HB.out⟩
          · have HD := Aside0.mk (HX.out.sub (n + 1) (xs.length - (n + 1)) (by omega))
            have hd : ((xs.drop (n + 1)).take (xs.length - (n + 1))).length = xs.length - (n + 1) := by simp
            have HDL := Aside0.mk hd
            have EE : Aside0 ((xs.drop (n + 1)).take (xs.length - (n + 1)) = xs.drop (m + ws.length)) := ⟨by rw [List.take_of_length_le (by simp)]; congr 1; have := HL.out; omega⟩
            have hcn : ¬ c = n + 1 := by omega
            clear hd
            go_enter Try.func56, Try.ntmps56
            go_wp2_with fail
            refine (refIs_calls _ _ _ _ HX.out).mono ?_
            rintro e w1 ⟨rfl, rfl⟩
            rw [V1.out]
            go_wp2_with fail
            refine (refIs_calls _ _ _ _ HW.out).mono ?_
            rintro e w1 ⟨rfl, rfl⟩
            rw [V2.out]
            go_wp2_with fail
            refine (within_calls _ _ _ _).mono ?_
            rintro e w1 ⟨rfl, rfl⟩
            rw [HI.out]
            go_wp2_with (first | (at_builtin; refine ap_bits (w0 := w) rfl (.tmp 35) (.tmp 38) 29 rfl Try.underlying29 (.slice (some ⟨w.heap.size, 0, none⟩) 0 0) [] ((xs.drop 0).take m) (some (ad.add 0)) _ rfl (by rw [HTL.out]; rfl) HO.out (HT.out.below HB.out) HB.out (by simp; omega) ?_; intro v1 w1 ho hb; rw [List.nil_append] at ho; clear HO HB; have HO := Aside0.mk ho; have HB := Aside0.mk hb; clear ho hb) | (at_builtin; refine ap_bits (w0 := w) rfl (.tmp 40) (.tmp 41) 29 rfl Try.underlying29 _ ((xs.drop 0).take m) ws B d rfl (rfl) HO.out (HW.out.below HB.out) HB.out (by simp; omega) ?_; intro v1 w1 ho hb; clear HO HB; have HO := Aside0.mk ho; have HB := Aside0.mk hb; clear ho hb) | (at_builtin; refine ap_bits (w0 := w) rfl (.tmp 43) (.tmp 47) 29 rfl Try.underlying29 _ ((xs.drop 0).take m ++ ws) ((xs.drop (n + 1)).take (xs.length - (n + 1))) (some (ad.add (n + 1))) _ rfl (by rw [HDL.out]; rfl) HO.out (HD.out.below HB.out) HB.out (by simp; omega) ?_; intro v1 w1 ho hb; clear HO HB; have HO := Aside0.mk ho; have HB := Aside0.mk hb; clear ho hb))
            go_ret2
            exact ⟨_, by rw [E2.out]; rfl, by rw [E1.out, ← EE.out]; exact HO.out, HB.out⟩
        · have hlb : ((ws.length : Int) != (n : Int) - m + 1) = true := by simpa using hl
          have V1 := Aside0.mk v1
          have V2 := Aside0.mk v2
          have HI := Aside0.mk hi
          have E1 : Aside0 (putV xs n m ws = []) := ⟨by simp [putV, hl]⟩
          have E2 : Aside0 (putE xs n m ws = 16) := ⟨by simp [putE, v1, v2, hi, hl]⟩
          clear v1 v2 hi hn hm hi2 hl
          go_enter Try.func56, Try.ntmps56
          go_wp2_with fail
          refine (refIs_calls _ _ _ _ HX.out).mono ?_
          rintro e w1 ⟨rfl, rfl⟩
          rw [V1.out]
          go_wp2_with fail
          refine (refIs_calls _ _ _ _ HW.out).mono ?_
          rintro e w1 ⟨rfl, rfl⟩
          rw [V2.out]
          go_wp2_with fail
          refine (within_calls _ _ _ _).mono ?_
          rintro e w1 ⟨rfl, rfl⟩
          rw [HI.out]
          go_wp2_with fail
          go_ret2
          exact ⟨_, by rw [E2.out]; rfl, by rw [E1.out]; exact Own.nil _ _, Below.refl _ _⟩
      · have hi' := eq_false_of_ne_true hi
        have V1 := Aside0.mk v1
        have V2 := Aside0.mk v2
        have HI := Aside0.mk hi'
        have E1 : Aside0 (putV xs h l ws = []) := ⟨by simp [putV, hi']⟩
        have E2 : Aside0 (putE xs h l ws = 19) := ⟨by simp [putE, v1, v2, hi']⟩
        clear v1 v2 hi hi'
        go_enter Try.func56, Try.ntmps56
        go_wp2_with fail
        refine (refIs_calls _ _ _ _ HX.out).mono ?_
        rintro e w1 ⟨rfl, rfl⟩
        rw [V1.out]
        go_wp2_with fail
        refine (refIs_calls _ _ _ _ HW.out).mono ?_
        rintro e w1 ⟨rfl, rfl⟩
        rw [V2.out]
        go_wp2_with fail
        refine (within_calls _ _ _ _).mono ?_
        rintro e w1 ⟨rfl, rfl⟩
        rw [HI.out]
        go_wp2_with fail
        go_ret2
        exact ⟨_, by rw [E2.out]; rfl, by rw [E1.out]; exact Own.nil _ _, Below.refl _ _⟩
    · have v2' := eq_false_of_ne_true v2
      have V1 := Aside0.mk v1
      have V2 := Aside0.mk v2'
      have E1 : Aside0 (putV xs h l ws = []) := ⟨by simp [putV, v2']⟩
      have E2 : Aside0 (putE xs h l ws = 2) := ⟨by simp [putE, v2']⟩
      clear v1 v2 v2'
      go_enter Try.func56, Try.ntmps56
      go_wp2_with fail
      refine (refIs_calls _ _ _ _ HX.out).mono ?_
      rintro e w1 ⟨rfl, rfl⟩
      rw [V1.out]
      go_wp2_with fail
      refine (refIs_calls _ _ _ _ HW.out).mono ?_
      rintro e w1 ⟨rfl, rfl⟩
      rw [V2.out]
      go_wp2_with fail
      go_ret2
      exact ⟨_, by rw [E2.out]; rfl, by rw [E1.out]; exact Own.nil _ _, Below.refl _ _⟩
  · have v1' := eq_false_of_ne_true v1
    have V1 := Aside0.mk v1'
    have E1 : Aside0 (putV xs h l ws = []) := ⟨by simp [putV, v1']⟩
    have E2 : Aside0 (putE xs h l ws = 2) := ⟨by simp [putE, v1']⟩
    clear v1 v1'
    go_enter Try.func56, Try.ntmps56
    go_wp2_with fail
    refine (refIs_calls _ _ _ _ HX.out).mono ?_
    rintro e w1 ⟨rfl, rfl⟩
    rw [V1.out]
    go_wp2_with fail
    go_ret2
    exact ⟨_, by rw [E2.out]; rfl, by rw [E1.out]; exact Own.nil _ _, Below.refl _ _⟩
end Go.Proofs.Ytaffdpgacggllaa.V
