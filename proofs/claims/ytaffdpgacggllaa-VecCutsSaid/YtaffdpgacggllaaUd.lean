/- Pure laws for the statement VecCuts. -/
import Derived.Test.YtaffdpgacggllaaUc
namespace Go.Proofs.Ytaffdpgacggllaa.V
open Go.RowKit Go.Proofs.YtaffdpgacggllaaW.PrintWords Go.Proofs.YtaffdpgacggllaaW.PrintLast Go.Proofs.YtaffdpgacggllaaW.PrintMore
set_option linter.unusedVariables false
set_option linter.unusedSimpArgs false

theorem isV_sub {xs ys : List Int} (h : isV xs = true) (hs : ∀ y ∈ ys, y ∈ xs) (h1 : 1 ≤ ys.length) (h2 : ys.length ≤ 64) : isV ys = true := by
  have e : ys.all isBit = true := List.all_eq_true.2 fun y hy => List.all_eq_true.1 (isV_pos h).2.2 y (hs y hy)
  simp only [isV, e, Bool.and_true, Bool.and_eq_true, decide_eq_true_eq]
  omega
theorem cut_at (x : Int) (n : Nat) (h1 : 2 ≤ n) (h2 : n ≤ 64) : ∃ K : Nat, 1 ≤ K ∧ K < n ∧ wrap64 (1 + wrap64 ((IntKind.u64.wrap x).tmod (IntKind.u64.wrap ((n : Int) - 1)))) = (K : Int) := by
  have h := wrap_u64_range x
  rw [wraps_u64 ((n : Int) - 1) (by omega) (by omega)]
  have e : (IntKind.u64.wrap x).tmod ((n : Int) - 1) = IntKind.u64.wrap x % ((n : Int) - 1) := Int.tmod_eq_emod_of_nonneg h.1
  have g1 := Int.emod_nonneg (IntKind.u64.wrap x) (show (n : Int) - 1 ≠ 0 by omega)
  have g2 := Int.emod_lt_of_pos (IntKind.u64.wrap x) (show 0 < (n : Int) - 1 by omega)
  refine ⟨(1 + IntKind.u64.wrap x % ((n : Int) - 1)).toNat, by omega, by omega, ?_⟩
  rw [e]
  generalize IntKind.u64.wrap x % ((n : Int) - 1) = y at *
  unfold wrap64
  omega
theorem cut_nz (n : Nat) (h1 : 2 ≤ n) (h2 : n ≤ 64) : ¬ IntKind.u64.wrap ((n : Int) - 1) = 0 := by
  rw [wraps_u64 ((n : Int) - 1) (by omega) (by omega)]; omega
section
variable {v ws : List Int} {K : Nat}
theorem cut_in (n h l : Nat) (h1 : l ≤ h) (h2 : h < n) : inB n h l = true := by simp [inB]; omega
theorem cut_high (hv : isV v = true) (k1 : 1 ≤ K) (k2 : K < v.length) (n1 : Nat) (hn : n1 + 1 = v.length) : sliceV v n1 K = v.drop K ∧ sliceE v n1 K = 0 := by
  have i := cut_in v.length n1 K (by omega) (by omega)
  refine ⟨?_, by simp [sliceE, hv, i]⟩
  simp only [sliceV, hv, i, Bool.and_true, if_true, Int.toNat_natCast]
  exact List.take_of_length_le (by simp; omega)
theorem cut_low (hv : isV v = true) (k1 : 1 ≤ K) (k2 : K < v.length) (m : Nat) (hm : m + 1 = K) : sliceV v m 0 = v.take K ∧ sliceE v m 0 = 0 := by
  have i := cut_in v.length m 0 (by omega) (by omega)
  have i' : inB v.length m 0 = true := i
  refine ⟨?_, by simp [sliceE, hv, i']⟩
  simp only [sliceV, hv, i', Bool.and_true, if_true]
  have e : ((m : Int) + 1).toNat - (0 : Int).toNat = K := by omega
  rw [e]; rfl
theorem cut_parts (hv : isV v = true) (k1 : 1 ≤ K) (k2 : K < v.length) : isV (v.drop K) = true ∧ isV (v.take K) = true := by
  have l := isV_pos hv
  exact ⟨isV_sub hv (fun y hy => List.mem_of_mem_drop hy) (by simp; omega) (by simp; omega), isV_sub hv (fun y hy => List.mem_of_mem_take hy) (by simp; omega) (by simp; omega)⟩
theorem cut_cat (hv : isV v = true) (k1 : 1 ≤ K) (k2 : K < v.length) : catV (v.drop K) (v.take K) = v ∧ catE (v.drop K) (v.take K) = 0 := by
  have l := isV_pos hv
  have p := cut_parts hv k1 k2
  have n : (v.drop K).length + (v.take K).length ≤ 64 := by simp; omega
  refine ⟨?_, by simp only [catE, p.1, p.2, n]; simp⟩
  simp only [catV, p.1, p.2, n]
  simp
def putT (v : List Int) (K : Nat) (ws : List Int) : List Int := v.take K ++ ws ++ v.drop (K + ws.length)
theorem putT_length (h : K + ws.length ≤ v.length) : (putT v K ws).length = v.length := by simp [putT]; omega
theorem cut_put (hv : isV v = true) (hw : isV ws = true) (k1 : 1 ≤ K) (h : K + ws.length ≤ v.length) (q : Nat) (hq : q + 1 = K + ws.length) : putV v q K ws = putT v K ws ∧ putE v q K ws = 0 := by
  have l := isV_pos hw
  have i := cut_in v.length q K (by omega) (by omega)
  have n : (ws.length : Int) = (q : Int) - K + 1 := by omega
  refine ⟨?_, by simp only [putE, hv, hw, i, n]; simp⟩
  simp only [putV, hv, hw, i, n, putT]
  simp
theorem putT_isV (hv : isV v = true) (hw : isV ws = true) (h : K + ws.length ≤ v.length) : isV (putT v K ws) = true := by
  have l := isV_pos hv
  have e : (putT v K ws).all isBit = true := by
    refine List.all_eq_true.2 fun y hy => ?_
    rcases List.mem_append.1 hy with hy | hy
    · rcases List.mem_append.1 hy with hy | hy
      · exact List.all_eq_true.1 l.2.2 y (List.mem_of_mem_take hy)
      · exact List.all_eq_true.1 (isV_pos hw).2.2 y hy
    · exact List.all_eq_true.1 l.2.2 y (List.mem_of_mem_drop hy)
  simp only [isV, putT_length h, e, Bool.and_true, Bool.and_eq_true, decide_eq_true_eq]
  omega
theorem cut_back (hv : isV v = true) (hw : isV ws = true) (k1 : 1 ≤ K) (h : K + ws.length ≤ v.length) (q : Nat) (hq : q + 1 = K + ws.length) : sliceV (putT v K ws) q K = ws ∧ sliceE (putT v K ws) q K = 0 := by
  have l := isV_pos hw
  have p := putT_isV (K := K) hv hw h
  have i := cut_in (putT v K ws).length q K (by omega) (by rw [putT_length h]; omega)
  refine ⟨?_, by simp [sliceE, p, i]⟩
  simp only [sliceV, p, i, Bool.and_true, if_true, Int.toNat_natCast]
  have e : ((q : Int) + 1).toNat - K = ws.length := by omega
  have t : (v.take K).length = K := by simp; omega
  rw [e, putT, List.append_assoc, List.drop_left' t, List.take_left' rfl]
theorem putT_low (h : K + ws.length ≤ v.length) (i : Nat) (hi : i < K) : nth (putT v K ws) i = nth v i := by
  rw [putT, List.append_assoc, nth_left _ _ _ (by simp; omega), nth_take _ _ _ hi]
theorem nth_right (l1 l2 : List Int) (i : Nat) (h : l1.length ≤ i) : nth (l1 ++ l2) i = nth l2 (i - l1.length) := by
  simp [nth, List.getD_eq_getElem?_getD, List.getElem?_append_right h]
theorem nth_drop (l : List Int) (k i : Nat) : nth (l.drop k) i = nth l (k + i) := by
  simp [nth, List.getD_eq_getElem?_getD, List.getElem?_drop]
theorem putT_high (h : K + ws.length ≤ v.length) (i : Nat) (hi : K + ws.length ≤ i) (hi2 : i < v.length) : nth (putT v K ws) i = nth v i := by
  have t : (v.take K ++ ws).length = K + ws.length := by simp; omega
  rw [putT, nth_right _ _ _ (by rw [t]; exact hi), nth_drop, t]
  congr 1
  omega
end
end Go.Proofs.Ytaffdpgacggllaa.V
