/- The statements' own examples: awake returns true. -/
import Derived.Test.YtaffdpgacggllaaVm
namespace Go.Proofs.Ytaffdpgacggllaa.V
open Go.RowKit Go.Proofs.YtaffdpgacggllaaW.PrintWords Go.Proofs.YtaffdpgacggllaaW.PrintLast Go.Proofs.YtaffdpgacggllaaW.PrintMore
attribute [local go_sem] max2_int min2_int max_two min_two
set_option linter.unusedVariables false
set_option linter.unusedSimpArgs false

theorem Rd.al {w : World} {A : Option Addr} {xs : List Int} (h : Rd w A xs) (o : Obj) : Rd (w.alloc o) A xs := h.below ((Below.refl _ _).alloc (Nat.le_refl _) o)
theorem Rd.litAt (w : World) (n : Nat) (hn : n = w.heap.size) (xs : List Int) (hb : Byt xs) (hl : xs.length ≤ 1000) (C : Array Value) (hC : C = (nums .u8 xs).toArray) : Rd (w.alloc (.cells C 37)) (some ⟨n, 0, none⟩) xs := by
  subst hn; exact Rd.lit w xs hb hl C hC
theorem below_al {w0 w : World} (h : Below w0.heap.size w0 w) (o : Obj) : Below w0.heap.size w0 (w.alloc o) := h.alloc h.size o
theorem Own.rd {w : World} {base : Nat} {v : Value} {xs : List Int} (h : Own w base v xs) (n : Nat) (hn : xs.length = n) : ∃ A c, v = .slice A n c ∧ n ≤ c ∧ Rd w A xs := by
  subst hn; exact h.reads
theorem byt4 {a b c d : Int} (h : (0 ≤ a ∧ a ≤ 255) ∧ (0 ≤ b ∧ b ≤ 255) ∧ (0 ≤ c ∧ c ≤ 255) ∧ (0 ≤ d ∧ d ≤ 255)) : Byt [a, b, c, d] := fun x hx => by
  simp only [List.mem_cons, List.not_mem_nil, or_false] at hx
  rcases hx with rfl | rfl | rfl | rfl
  · exact h.1
  · exact h.2.1
  · exact h.2.2.1
  · exact h.2.2.2
theorem byt2 {a b : Int} (h : (0 ≤ a ∧ a ≤ 255) ∧ (0 ≤ b ∧ b ≤ 255)) : Byt [a, b] := fun x hx => by
  simp only [List.mem_cons, List.not_mem_nil, or_false] at hx
  rcases hx with rfl | rfl
  · exact h.1
  · exact h.2
theorem aw1 : compV addW [0, 1, 1, 0] [1, 1, 0, 0] = [1, 0, 0, 1] := by decide +kernel
theorem aw2 : compE [0, 1, 1, 0] [1, 1, 0, 0] = 0 := by decide +kernel
theorem aw3 : compV addW [0, 1, 1, 0] [1, 2, 0, 0] = [2, 2, 2, 2] := by decide +kernel
theorem aw4 : compE [0, 1, 1, 0] [1, 2, 0, 0] = 0 := by decide +kernel
theorem aw5 : numberV [0, 1, 1, 0] = 6 := by decide +kernel
theorem aw6 : numberE [0, 1, 1, 0] = 0 := by decide +kernel
theorem aw7 : intV (ByteArray.mk #[47]).toList (-7) 2 = -4 := by decide +kernel
theorem aw8 : intE (ByteArray.mk #[47]).toList (-7) 2 = 0 := by decide +kernel
theorem aw9 : intV (ByteArray.mk #[109, 111, 100]).toList (-7) 2 = 1 := by decide +kernel
theorem aw10 : intE (ByteArray.mk #[109, 111, 100]).toList (-7) 2 = 0 := by decide +kernel
theorem aw11 : catV [0, 1] [2, 0] = [2, 0, 0, 1] := by decide +kernel
theorem aw12 : catE [0, 1] [2, 0] = 0 := by decide +kernel
theorem aw13 : signedB [1, 1, 1, 1] [0, 0, 0, 0] = true := by decide +kernel
theorem aw14 : compE [1, 1, 1, 1] [0, 0, 0, 0] = 0 := by decide +kernel
theorem aw15 : compE [0, 1, 1, 0] [] = 2 := by decide +kernel
theorem aw16 : eqB [1, 0, 0, 1] [1, 0, 0, 1] = true := by decide +kernel
theorem aw17 : eqB [2, 2, 2, 2] [2, 2, 2, 2] = true := by decide +kernel
theorem aw18 : eqB [2, 0, 0, 1] [2, 0, 0, 1] = true := by decide +kernel
set_option maxRecDepth 100000 in
set_option maxHeartbeats 4000000 in
theorem awake_calls (w : World) : Calls Try.prog 17 #[] w fun e w' => e = .returned (.bool true) ∧ Below w.heap.size w w' := by
  have S1 : Aside0 (Rd (w.alloc (.cells #[.int .u8 0, .int .u8 1, .int .u8 1, .int .u8 0] 37)) (some ⟨w.heap.size, 0, none⟩) [0, 1, 1, 0]) := ⟨Rd.lit w _ (byt4 (by omega)) (by simp) _ rfl⟩
  have S2 : Aside0 (Rd ((w.alloc (.cells #[.int .u8 0, .int .u8 1, .int .u8 1, .int .u8 0] 37)).alloc (.cells #[.int .u8 1, .int .u8 1, .int .u8 0, .int .u8 0] 37)) (some ⟨w.heap.size + 1, 0, none⟩) [1, 1, 0, 0]) := ⟨Rd.litAt _ _ (by simp) _ (byt4 (by omega)) (by simp) _ rfl⟩
  go_enter Try.func17, Try.ntmps17
  go_wp2_with fail
  refine (add_calls [0, 1, 1, 0] [1, 1, 0, 0] _ _ _ _ _ (S1.out.al _) S2.out).mono ?_
  rintro e w1 ⟨v, rfl, ho, hb⟩
  rw [aw1] at ho
  rw [aw2]
  obtain ⟨A1, c1, rfl, _, hr1⟩ := ho.rd 4 rfl
  have R0 := Aside0.mk ((S1.out.al _).below hb)
  have R1 := Aside0.mk hr1
  have HB := Aside0.mk (below_step (below_al (below_al (Below.refl _ _) _) _) hb)
  clear ho hb hr1 S1 S2
  go_wp2_with fail
  refine (add_calls [0, 1, 1, 0] [1, 2, 0, 0] _ _ _ _ _ (R0.out.al _) (Rd.litAt _ _ rfl _ (byt4 (by omega)) (by simp) _ rfl)).mono ?_
  rintro e w2 ⟨v, rfl, ho, hb⟩
  rw [aw3] at ho
  rw [aw4]
  obtain ⟨A2, c2, rfl, _, hr2⟩ := ho.rd 4 rfl
  have HB' := Aside0.mk (below_step (below_al HB.out _) hb)
  have R0' := Aside0.mk ((R0.out.al _).below hb)
  have R1' := Aside0.mk ((R1.out.al _).below hb)
  have R2 := Aside0.mk hr2
  clear ho hb hr2 R0 R1 HB
  go_wp2_with fail
  refine (vecNumber_calls [0, 1, 1, 0] _ _ _ R0'.out).mono ?_
  rintro e w3 ⟨rfl, rfl⟩
  rw [aw5, aw6]
  go_wp2_with fail
  refine (vecInt_calls _ _ _ _).mono ?_
  rintro e w3 ⟨rfl, rfl⟩
  rw [aw7, aw8]
  go_wp2_with fail
  refine (vecInt_calls _ _ _ _).mono ?_
  rintro e w3 ⟨rfl, rfl⟩
  rw [aw9, aw10]
  go_wp2_with fail
  refine (vecCat_calls [0, 1] [2, 0] _ _ _ _ _ ((Rd.litAt _ _ rfl _ (byt2 (by omega)) (by simp) _ rfl).al _) (Rd.litAt _ _ (by simp) _ (byt2 (by omega)) (by simp) _ rfl)).mono ?_
  rintro e w3 ⟨v, rfl, ho, hb⟩
  rw [aw11] at ho
  rw [aw12]
  obtain ⟨A3, c3, rfl, _, hr3⟩ := ho.rd 4 rfl
  have HB := Aside0.mk (below_step (below_al (below_al HB'.out _) _) hb)
  have R0 := Aside0.mk (((R0'.out.al _).al _).below hb)
  have R1 := Aside0.mk (((R1'.out.al _).al _).below hb)
  have R2' := Aside0.mk (((R2.out.al _).al _).below hb)
  have R3 := Aside0.mk hr3
  clear ho hb hr3 R0' R1' R2 HB'
  go_wp2_with fail
  refine (signed_calls [1, 1, 1, 1] [0, 0, 0, 0] _ _ _ _ _ ((Rd.litAt _ _ rfl _ (byt4 (by omega)) (by simp) _ rfl).al _) (Rd.litAt _ _ (by simp) _ (byt4 (by omega)) (by simp) _ rfl)).mono ?_
  rintro e w4 ⟨rfl, hb⟩
  rw [aw13, aw14]
  have HB' := Aside0.mk (below_step (below_al (below_al HB.out _) _) hb)
  have R0' := Aside0.mk (((R0.out.al _).al _).below hb)
  have R1' := Aside0.mk (((R1.out.al _).al _).below hb)
  have R2 := Aside0.mk (((R2'.out.al _).al _).below hb)
  have R3' := Aside0.mk (((R3.out.al _).al _).below hb)
  clear hb R0 R1 R2' R3 HB
  go_wp2_with fail
  refine (add_calls [0, 1, 1, 0] [] _ _ _ _ _ R0'.out (Rd.nil _ _)).mono ?_
  rintro e w5 ⟨v, rfl, ho, hb⟩
  rw [aw15]
  have HB := Aside0.mk (below_step HB'.out hb)
  have R1 := Aside0.mk (R1'.out.below hb)
  have R2' := Aside0.mk (R2.out.below hb)
  have R3 := Aside0.mk (R3'.out.below hb)
  clear ho hb R0' R1' R2 R3' HB'
  go_wp2_with fail
  refine (refSame_calls [1, 0, 0, 1] [1, 0, 0, 1] _ _ _ _ _ (R1.out.al _) (Rd.litAt _ _ rfl _ (byt4 (by omega)) (by simp) _ rfl)).mono ?_
  rintro e w6 ⟨rfl, n, hw⟩
  have hb : Below (w5.alloc (.cells #[.int .u8 1, .int .u8 0, .int .u8 0, .int .u8 1] 37)).heap.size (w5.alloc (.cells #[.int .u8 1, .int .u8 0, .int .u8 0, .int .u8 1] 37)) w6 := by rw [hw]; exact below_drewN' _ _
  rw [aw16]
  have HB' := Aside0.mk (below_step (below_al HB.out _) hb)
  have R2 := Aside0.mk ((R2'.out.al _).below hb)
  have R3' := Aside0.mk ((R3.out.al _).below hb)
  clear hw hb R1 R2' R3 HB
  go_wp2_with fail
  refine (refSame_calls [2, 2, 2, 2] [2, 2, 2, 2] _ _ _ _ _ (R2.out.al _) (Rd.litAt _ _ rfl _ (byt4 (by omega)) (by simp) _ rfl)).mono ?_
  rintro e w7 ⟨rfl, n, hw⟩
  have hb : Below (w6.alloc (.cells #[.int .u8 2, .int .u8 2, .int .u8 2, .int .u8 2] 37)).heap.size (w6.alloc (.cells #[.int .u8 2, .int .u8 2, .int .u8 2, .int .u8 2] 37)) w7 := by rw [hw]; exact below_drewN' _ _
  rw [aw17]
  have HB := Aside0.mk (below_step (below_al HB'.out _) hb)
  have R3 := Aside0.mk ((R3'.out.al _).below hb)
  clear hw hb R2 R3' HB'
  go_wp2_with fail
  refine (refSame_calls [2, 0, 0, 1] [2, 0, 0, 1] _ _ _ _ _ (R3.out.al _) (Rd.litAt _ _ rfl _ (byt4 (by omega)) (by simp) _ rfl)).mono ?_
  rintro e w8 ⟨rfl, n, hw⟩
  have hb : Below (w7.alloc (.cells #[.int .u8 2, .int .u8 0, .int .u8 0, .int .u8 1] 37)).heap.size (w7.alloc (.cells #[.int .u8 2, .int .u8 0, .int .u8 0, .int .u8 1] 37)) w8 := by rw [hw]; exact below_drewN' _ _
  rw [aw18]
  have HB' := Aside0.mk (below_step (below_al HB.out _) hb)
  clear hw hb R3 HB
  go_wp2_with fail
  go_ret
  exact ⟨rfl, HB'.out⟩
end Go.Proofs.Ytaffdpgacggllaa.V
