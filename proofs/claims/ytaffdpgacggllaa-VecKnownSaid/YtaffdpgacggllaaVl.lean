/- Contracts of functions of package vec, the twelfth part: Replace, Put. -/
import Derived.Test.YtaffdpgacggllaaVk
import Derived.WalkSpells

namespace Go.Proofs.Ytaffdpgacggllaa.V
open Go.RowKit Go.Proofs.YtaffdpgacggllaaW.PrintWords Go.Proofs.YtaffdpgacggllaaW.PrintLast Go.Proofs.YtaffdpgacggllaaW.PrintMore
attribute [local go_sem] max2_int min2_int max_two min_two
set_option linter.unusedVariables false
set_option linter.unusedSimpArgs false

set_option maxRecDepth 100000 in
set_option maxHeartbeats 1000000 in
theorem replace_end (xs ws : List Int) (g cap l n m d : Nat) (B : Option Addr) (w0 w : World) (ho : Own w w0.heap.size (.slice (some ⟨g, 0, none⟩) n cap) xs) (hb : Below w0.heap.size w0 w) (hw : Rd w B ws) (hwm : ws.length = m)
    (hm : 1 ≤ m) (hl : l + m = n) (hn : n ≤ 64) :
    Calls Try.prog 88 #[.slice (some ⟨g, 0, none⟩) n cap, .int .i64 l, .int .i64 n, .slice B m d] w fun e w' => ∃ v, e = .returned v ∧ Own w' w0.heap.size v (xs.take l ++ ws) ∧ Below w0.heap.size w0 w' := by
  have hcap : n ≤ cap := by obtain ⟨_, _, h, _⟩ := ho.block; exact h
  have hxn : xs.length = n := by obtain ⟨_, _, _, _, _, _, h, _⟩ := ho.block; exact h
  have HO := Aside0.mk ho
  have HC := Aside0.mk (ho.cut l (by omega))
  have HB := Aside0.mk hb
  have HW := Aside0.mk hw
  have hlen : (xs.take l ++ ws).length = n := by simp; omega
  have HL := Aside0.mk hlen
  have hln : (l : Int) ≤ n := by omega
  have hlc : l ≤ cap := by omega
  have hne : ((l : Int) == (n : Int)) = false := by simp; omega
  subst hwm
  clear ho hb hw hlen hxn
  go_enter Try.func88, Try.ntmps88
  go_wp2_with (at_builtin; refine ap_bits (w0 := w0) rfl (.tmp 32) (.tmp 33) 29 rfl Try.underlying29 (.slice (some ⟨g, 0, none⟩) l cap) (xs.take l) ws B d rfl rfl HC.out HW.out HB.out (by simp; omega) ?_; intro v1 w1 ho hb; obtain ⟨g1, c1, rfl, hg1, hg2⟩ := ho.form (by rw [HL.out]; omega); rw [HL.out] at ho ⊢; clear HO HC HB HW; have HO := Aside0.mk ho; have HB := Aside0.mk hb; clear ho hb hg2)
  go_ret
  exact ⟨_, rfl, HO.out, HB.out⟩
theorem run_clear_empty (a : Addr) (c : Nat) (w : World) : (Builtin.clear_ #[29] 0 #[.slice (some a) 0 c]).run Try.prog w = .ok (.tuple #[]) w := by
  simp [Builtin.clear_, run_underlying Try.underlying29]
set_option maxRecDepth 100000 in
set_option maxHeartbeats 2000000 in
theorem replace_mid (xs ws : List Int) (g cap l n m d : Nat) (B : Option Addr) (w0 w : World) (ho : Own w w0.heap.size (.slice (some ⟨g, 0, none⟩) n cap) xs) (hb : Below w0.heap.size w0 w) (hw : Rd w B ws) (hwm : ws.length = m)
    (hm : 1 ≤ m) (hl : l + m < n) (hn : n ≤ 64) (j : Int) (hj : j = l + m) :
    Calls Try.prog 88 #[.slice (some ⟨g, 0, none⟩) n cap, .int .i64 l, .int .i64 j, .slice B m d] w fun e w' => ∃ v, e = .returned v ∧ Own w' w0.heap.size v (xs.take l ++ ws ++ xs.drop (l + m)) ∧ Below w0.heap.size w0 w' := by
  have hcap : n ≤ cap := by obtain ⟨_, _, h, _⟩ := ho.block; exact h
  have hxn : xs.length = n := by obtain ⟨_, _, _, _, _, _, h, _⟩ := ho.block; exact h
  have HO := Aside0.mk ho
  have HB := Aside0.mk hb
  have HW := Aside0.mk hw
  have HX := Aside0.mk hxn
  have HM := Aside0.mk hwm
  obtain ⟨q, hq⟩ : ∃ q : Nat, q = l + m := ⟨_, rfl⟩
  obtain rfl : j = (q : Int) := by omega
  have HQ := Aside0.mk hq
  have hlq : l < q := by omega
  have hqn : q < n := by omega
  have hqc : q ≤ cap := by omega
  have hqn2 : q ≤ n := by omega
  have hlc : l ≤ cap := by omega
  have hne : ((l : Int) == (q : Int)) = false := by simp; omega
  have hne2 : ((q : Int) == (n : Int)) = false := by simp; omega
  have hq2 : ¬ cap = q := by omega
  have hq3 : ¬ cap = l := by omega
  have hs1 : IntKind.i64.wrap ((l : Int) + m) = q := by rw [IntWalk.i64_in _ (by omega)]; omega
  have hs2 : IntKind.i64.wrap ((q : Int) + ((n - q : Nat) : Int)) = n := by rw [IntWalk.i64_in _ (by omega)]; omega
  have hs3 : wrap64 ((l : Int) + m) = q := by unfold wrap64; omega
  have hs4 : wrap64 ((q : Int) + ((n - q : Nat) : Int)) = n := by unfold wrap64; omega
  clear ho hb hw hxn hwm hj hq hl
  go_enter Try.func88, Try.ntmps88
  go_wp2_with fail
  go_quiet (fail)
  go_wp2_with fail
  have HO1 := Aside0.mk (HO.out.below (below_drewN' _ nq))
  have HB1 := Aside0.mk (pw_below_drewN HB.out nq)
  have HW1 := Aside0.mk (HW.out.drewN nq)
  obtain ⟨bd, eb, _⟩ := HW1.out.at_ 0 (by have := HM.out; omega)
  cases eb
  refine upon_cp (w0 := w0) (g := g) (n := n) (cap := cap) (off := l) (cs := ws) 29 29 3 Try.underlying29 _ _ _ _ _ _ HO1.out HW1.out.b (by have := HM.out; have := HQ.out; show _ = min m (n - l); omega) (fun hp => ⟨rfl, bd, rfl, fun j hj => by obtain ⟨bd2, e2, hc⟩ := HW1.out.at_ j hj; cases e2; exact hc⟩) (by have := HM.out; have := HQ.out; omega) HB1.out ?_
  intro w2 ho hb
  rw [HM.out] at ho ⊢
  have HO2 := Aside0.mk ho
  have HB2 := Aside0.mk hb
  clear ho hb HO HB HW HO1 HB1 HW1
  go_wp2_with fail
  have hlen : (xs.take l ++ (ws ++ xs.drop (l + m))).length = n := by have := HM.out; have := HX.out; have := HQ.out; simp; omega
  obtain ⟨xs1, hxs1⟩ : ∃ y, y = xs.take l ++ (ws ++ xs.drop (l + m)) := ⟨_, rfl⟩
  rw [← hxs1] at HO2 hlen
  have HXS := Aside0.mk hxs1
  have HL := Aside0.mk hlen
  clear hxs1 hlen
  have HOd := Aside0.mk (HO2.out.below (Below.refl _ _).drew)
  have HBd := Aside0.mk HB2.out.drew
  have hcl : (xs1.drop q).length = n - q := by rw [List.length_drop, HL.out]
  have hcp : ∀ j, j < (xs1.drop q).length → w2.drew.cell? ((⟨g, q, none⟩ : Addr).add j) = some (.int .u8 (nth (xs1.drop q) j)) := fun j hj => by
    rw [hcl] at hj
    have h1 := (HOd.out.cell (q + j) (by omega)).1
    have e1 : nth (xs1.drop q) j = nth xs1 (q + j) := by simp [nth, List.getD_eq_getElem?_getD, List.getElem?_drop]
    rw [e1, show (⟨g, q, none⟩ : Addr).add j = ⟨g, q + j, none⟩ by unfold Addr.add; by_cases h0 : j = 0 <;> simp [h0]]
    exact h1
  have HCP := Aside0.mk hcp
  have HCL := Aside0.mk hcl
  have hfin : xs1.take q ++ (xs1.drop q ++ xs1.drop (q + (xs1.drop q).length)) = xs1 := by
    have hd : xs1.drop (q + (n - q)) = [] := List.drop_of_length_le (by rw [HL.out]; omega)
    rw [hcl, hd, List.append_nil, List.take_append_drop]
  have HF := Aside0.mk hfin
  clear hcp hcl hfin
  go_region_law (refine step_cp_bits (w := w2.drew) (w0 := w0) (g := g) (n := n) (cap := cap) (off := q) (cs := xs1.drop q) rfl (.tmp 103) (.tmp 106) 29 29 rfl Try.underlying29 (some ⟨g, q, none⟩) (some ⟨g, q, none⟩) (n - q) (cap - q) (n - q) (cap - q) (by simp [Act.eval, Act.put]) (by simp [Act.eval, Act.put]) HOd.out (HOd.out.b.sub fun _ h => List.mem_of_mem_drop h) (by rw [HCL.out]; simp) (fun _ => ⟨rfl, _, rfl, HCP.out⟩) (by rw [HCL.out]; omega) HBd.out ?_; intro w3 ho3 hb3; rw [HF.out] at ho3; have HO3 := Aside0.mk ho3; have HB3 := Aside0.mk hb3; clear ho3 hb3)
  go_wp2_with fail
  all_goals
    rw [run_clear_empty]
    go_wp2_with fail
    go_ret
    exact ⟨_, rfl, by rw [List.append_assoc, ← HXS.out]; first | exact HO3.out | (have hcn : cap = n := by assumption
                                                                                  have h3 := HO3.out
                                                                                  rw [hcn] at h3
                                                                                  exact h3), HB3.out⟩

def putV (xs : List Int) (h l : Int) (ws : List Int) : List Int :=
  if ((isV xs && isV ws) && inB xs.length h l) && decide ((ws.length : Int) = h - l + 1) then xs.take l.toNat ++ ws ++ xs.drop (l.toNat + ws.length) else []
def putE (xs : List Int) (h l : Int) (ws : List Int) : Int :=
  if (isV xs && isV ws) = false then 2 else if inB xs.length h l = false then 19 else if decide ((ws.length : Int) = h - l + 1) = false then 16 else 0
set_option maxRecDepth 100000 in
set_option maxHeartbeats 1000000 in
theorem vecPut_calls (xs ws : List Int) (A B : Option Addr) (c d : Nat) (h l : Int) (w : World) (hx : Rd w A xs) (hw : Rd w B ws) :
    Calls Try.prog 55 #[.slice A xs.length c, .int .i64 h, .int .i64 l, .slice B ws.length d] w fun e w' => ∃ v, e = .returned (.tuple #[v, .int .i64 (putE xs h l ws)]) ∧ Own w' w.heap.size v (putV xs h l ws) ∧ Below w.heap.size w w' := by
  have HX := Aside0.mk hx
  have HW := Aside0.mk hw
  have hle := hw.le
  clear hx hw
  by_cases v1 : isV xs = true
  · by_cases v2 : isV ws = true
    · by_cases hi : inB xs.length h l = true
      · have hn := isV_pos v1
        have hn1 := hn.1
        have hn2 := hn.2.1
        have hm := isV_pos v2
        have hm1 := hm.1
        have hm2 := hm.2.1
        have hi2 : 0 ≤ l ∧ l ≤ h ∧ h < xs.length := by simpa [inB] using hi
        obtain ⟨m, rfl⟩ := Int.eq_ofNat_of_zero_le hi2.1
        obtain ⟨n, rfl⟩ := Int.eq_ofNat_of_zero_le (show 0 ≤ h by omega)
        have hmn : m ≤ n := by omega
        have hnx : n + 1 ≤ xs.length := by omega
        by_cases hl : (ws.length : Int) = n - m + 1
        · have V1 := Aside0.mk v1
          have V2 := Aside0.mk v2
          have HI := Aside0.mk hi
          have E1 : Aside0 (putV xs n m ws = xs.take m ++ ws ++ xs.drop (m + ws.length)) := ⟨by simp only [putV, v1, v2, hi, hl]; simp⟩
          have E2 : Aside0 (putE xs n m ws = 0) := ⟨by simp only [putE, v1, v2, hi, hl]; simp⟩
          have hlb : ((ws.length : Int) != (n : Int) - m + 1) = false := by simp [hl]
          have HL := Aside0.mk hl
          obtain ⟨ad, e, _⟩ := HX.out.at_ 0 (by omega)
          cases e
          clear v1 v2 hi hn hm hi2 hl
          go_enter Try.func55, Try.ntmps55
          go_wp2_with fail
          refine (logicIs_calls _ _ _ _ HX.out).mono ?_
          rintro e w1 ⟨rfl, rfl⟩
          rw [V1.out]
          go_wp2_with fail
          refine (logicIs_calls _ _ _ _ HW.out).mono ?_
          rintro e w1 ⟨rfl, rfl⟩
          rw [V2.out]
          go_wp2_with fail
          refine (isSlice_calls _ _ _ _ _ _).mono ?_
          rintro e w1 ⟨rfl, rfl⟩
          rw [HI.out]
          go_wp2_with fail
          refine (clone_calls _ _ _ _ HX.out hn2).mono ?_
          rintro e w1 ⟨v, rfl, ho, hb⟩
          obtain ⟨g, cap, rfl, hg1, hg2⟩ := ho.form (by omega)
          have HO := Aside0.mk ho
          have HB := Aside0.mk hb
          clear ho hb
          by_cases hend : n + 1 = xs.length
          · have hr := replace_end xs ws g cap m xs.length ws.length d B w w1 HO.out HB.out (HW.out.below HB.out) rfl hm1 (by have := HL.out; omega) hn2
            have EE : Aside0 (xs.drop (m + ws.length) = []) := ⟨List.drop_of_length_le (by have := HL.out; omega)⟩
            rw [← hend] at hr
            rw [Int.natCast_add] at hr
            have HEND := Aside0.mk hend
            clear hend
            go_wp2_with fail
            rw [← HEND.out]
            refine hr.mono ?_
            rintro e w2 ⟨v2, rfl, ho2, hb2⟩
            have HO2 := Aside0.mk ho2
            have HB2 := Aside0.mk hb2
            clear ho2 hb2 hr
            go_wp2_with fail
            go_ret2
            exact ⟨_, by rw [E2.out]; rfl, by rw [E1.out, EE.out, List.append_nil]; exact HO2.out, HB2.out⟩
          · have hr := replace_mid xs ws g cap m xs.length ws.length d B w w1 HO.out HB.out (HW.out.below HB.out) rfl hm1 (by have := HL.out; omega) hn2 ((n : Int) + 1) (by have := HL.out; omega)
            clear hend
            go_wp2_with fail
            refine hr.mono ?_
            rintro e w2 ⟨v2, rfl, ho2, hb2⟩
            have HO2 := Aside0.mk ho2
            have HB2 := Aside0.mk hb2
            clear ho2 hb2 hr
            go_wp2_with fail
            go_ret2
            exact ⟨_, by rw [E2.out]; rfl, by rw [E1.out]; exact HO2.out, HB2.out⟩
        · have hlb : ((ws.length : Int) != (n : Int) - m + 1) = true := by simpa using hl
          have V1 := Aside0.mk v1
          have V2 := Aside0.mk v2
          have HI := Aside0.mk hi
          have E1 : Aside0 (putV xs n m ws = []) := ⟨by simp [putV, hl]⟩
          have E2 : Aside0 (putE xs n m ws = 16) := ⟨by simp [putE, v1, v2, hi, hl]⟩
          clear v1 v2 hi hn hm hi2 hl
          go_enter Try.func55, Try.ntmps55
          go_wp2_with fail
          refine (logicIs_calls _ _ _ _ HX.out).mono ?_
          rintro e w1 ⟨rfl, rfl⟩
          rw [V1.out]
          go_wp2_with fail
          refine (logicIs_calls _ _ _ _ HW.out).mono ?_
          rintro e w1 ⟨rfl, rfl⟩
          rw [V2.out]
          go_wp2_with fail
          refine (isSlice_calls _ _ _ _ _ _).mono ?_
          rintro e w1 ⟨rfl, rfl⟩
          rw [HI.out]
          go_wp2_with fail
          go_ret2
          exact ⟨_, by rw [E2.out]; rfl, by rw [E1.out]; exact Own.nil _ _, Below.refl _ _⟩
      · have hi' := eq_false_of_ne_true hi
        have V1 := Aside0.mk v1
        have V2 := Aside0.mk v2
        have HI := Aside0.mk hi'
        have E1 : Aside0 (putV xs h l ws = []) := ⟨by simp [putV, hi']⟩
        have E2 : Aside0 (putE xs h l ws = 19) := ⟨by simp [putE, v1, v2, hi']⟩
        clear v1 v2 hi hi'
        go_enter Try.func55, Try.ntmps55
        go_wp2_with fail
        refine (logicIs_calls _ _ _ _ HX.out).mono ?_
        rintro e w1 ⟨rfl, rfl⟩
        rw [V1.out]
        go_wp2_with fail
        refine (logicIs_calls _ _ _ _ HW.out).mono ?_
        rintro e w1 ⟨rfl, rfl⟩
        rw [V2.out]
        go_wp2_with fail
        refine (isSlice_calls _ _ _ _ _ _).mono ?_
        rintro e w1 ⟨rfl, rfl⟩
        rw [HI.out]
        go_wp2_with fail
        go_ret2
        exact ⟨_, by rw [E2.out]; rfl, by rw [E1.out]; exact Own.nil _ _, Below.refl _ _⟩
    · have v2' := eq_false_of_ne_true v2
      have V1 := Aside0.mk v1
      have V2 := Aside0.mk v2'
      have E1 : Aside0 (putV xs h l ws = []) := ⟨by simp [putV, v2']⟩
      have E2 : Aside0 (putE xs h l ws = 2) := ⟨by simp [putE, v2']⟩
      clear v1 v2 v2'
      go_enter Try.func55, Try.ntmps55
      go_wp2_with fail
      refine (logicIs_calls _ _ _ _ HX.out).mono ?_
      rintro e w1 ⟨rfl, rfl⟩
      rw [V1.out]
      go_wp2_with fail
      refine (logicIs_calls _ _ _ _ HW.out).mono ?_
      rintro e w1 ⟨rfl, rfl⟩
      rw [V2.out]
      go_wp2_with fail
      go_ret2
      exact ⟨_, by rw [E2.out]; rfl, by rw [E1.out]; exact Own.nil _ _, Below.refl _ _⟩
  · have v1' := eq_false_of_ne_true v1
    have V1 := Aside0.mk v1'
    have E1 : Aside0 (putV xs h l ws = []) := ⟨by simp [putV, v1']⟩
    have E2 : Aside0 (putE xs h l ws = 2) := ⟨by simp [putE, v1']⟩
    clear v1 v1'
    go_enter Try.func55, Try.ntmps55
    go_wp2_with fail
    refine (logicIs_calls _ _ _ _ HX.out).mono ?_
    rintro e w1 ⟨rfl, rfl⟩
    rw [V1.out]
    go_wp2_with fail
    go_ret2
    exact ⟨_, by rw [E2.out]; rfl, by rw [E1.out]; exact Own.nil _ _, Below.refl _ _⟩
end Go.Proofs.Ytaffdpgacggllaa.V
