import Derived.Test.YtdhcgankmhpgeaaGreatVk
import Derived.Test.YtdhcgankmhpgeaaGreatVl
set_option linter.unusedSectionVars false
namespace Go.Proofs.YtdhcgankmhpgeaaGreat.M
open Go
set_option maxRecDepth 100000
set_option linter.unusedVariables false
theorem unk0 : evW 196 [.int .i64 0] [] = some (.ret (bitsA (List.replicate 0 2)), []) := ev_le 14 196 _ _ _ (by kernel_rfl)
theorem unk1 : evW 196 [.int .i64 1] [] = some (.ret (bitsA (List.replicate 1 2)), []) := ev_le 14 196 _ _ _ (by kernel_rfl)
theorem unk2 : evW 196 [.int .i64 2] [] = some (.ret (bitsA (List.replicate 2 2)), []) := ev_le 14 196 _ _ _ (by kernel_rfl)
theorem unk3 : evW 196 [.int .i64 3] [] = some (.ret (bitsA (List.replicate 3 2)), []) := ev_le 14 196 _ _ _ (by kernel_rfl)
theorem unk4 : evW 196 [.int .i64 4] [] = some (.ret (bitsA (List.replicate 4 2)), []) := ev_le 14 196 _ _ _ (by kernel_rfl)
theorem unk5 : evW 196 [.int .i64 5] [] = some (.ret (bitsA (List.replicate 5 2)), []) := ev_le 14 196 _ _ _ (by kernel_rfl)
theorem unk6 : evW 196 [.int .i64 6] [] = some (.ret (bitsA (List.replicate 6 2)), []) := ev_le 14 196 _ _ _ (by kernel_rfl)
theorem unk7 : evW 196 [.int .i64 7] [] = some (.ret (bitsA (List.replicate 7 2)), []) := ev_le 14 196 _ _ _ (by kernel_rfl)
theorem unk8 : evW 196 [.int .i64 8] [] = some (.ret (bitsA (List.replicate 8 2)), []) := ev_le 14 196 _ _ _ (by kernel_rfl)
theorem unk9 : evW 196 [.int .i64 9] [] = some (.ret (bitsA (List.replicate 9 2)), []) := ev_le 14 196 _ _ _ (by kernel_rfl)
theorem unk10 : evW 196 [.int .i64 10] [] = some (.ret (bitsA (List.replicate 10 2)), []) := ev_le 14 196 _ _ _ (by kernel_rfl)
theorem unk11 : evW 196 [.int .i64 11] [] = some (.ret (bitsA (List.replicate 11 2)), []) := ev_le 14 196 _ _ _ (by kernel_rfl)
theorem unk12 : evW 196 [.int .i64 12] [] = some (.ret (bitsA (List.replicate 12 2)), []) := ev_le 14 196 _ _ _ (by kernel_rfl)
theorem unk13 : evW 196 [.int .i64 13] [] = some (.ret (bitsA (List.replicate 13 2)), []) := ev_le 14 196 _ _ _ (by kernel_rfl)
theorem unk14 : evW 196 [.int .i64 14] [] = some (.ret (bitsA (List.replicate 14 2)), []) := ev_le 14 196 _ _ _ (by kernel_rfl)
theorem unk15 : evW 196 [.int .i64 15] [] = some (.ret (bitsA (List.replicate 15 2)), []) := ev_le 14 196 _ _ _ (by kernel_rfl)
theorem unk16 : evW 196 [.int .i64 16] [] = some (.ret (bitsA (List.replicate 16 2)), []) := ev_le 14 196 _ _ _ (by kernel_rfl)
theorem unk17 : evW 196 [.int .i64 17] [] = some (.ret (bitsA (List.replicate 17 2)), []) := ev_le 14 196 _ _ _ (by kernel_rfl)
theorem unk18 : evW 196 [.int .i64 18] [] = some (.ret (bitsA (List.replicate 18 2)), []) := ev_le 14 196 _ _ _ (by kernel_rfl)
theorem unk19 : evW 196 [.int .i64 19] [] = some (.ret (bitsA (List.replicate 19 2)), []) := ev_le 14 196 _ _ _ (by kernel_rfl)
theorem unk20 : evW 196 [.int .i64 20] [] = some (.ret (bitsA (List.replicate 20 2)), []) := ev_le 14 196 _ _ _ (by kernel_rfl)
theorem unk21 : evW 196 [.int .i64 21] [] = some (.ret (bitsA (List.replicate 21 2)), []) := ev_le 14 196 _ _ _ (by kernel_rfl)
theorem unk22 : evW 196 [.int .i64 22] [] = some (.ret (bitsA (List.replicate 22 2)), []) := ev_le 14 196 _ _ _ (by kernel_rfl)
theorem unk23 : evW 196 [.int .i64 23] [] = some (.ret (bitsA (List.replicate 23 2)), []) := ev_le 14 196 _ _ _ (by kernel_rfl)
theorem unk24 : evW 196 [.int .i64 24] [] = some (.ret (bitsA (List.replicate 24 2)), []) := ev_le 14 196 _ _ _ (by kernel_rfl)
theorem unk25 : evW 196 [.int .i64 25] [] = some (.ret (bitsA (List.replicate 25 2)), []) := ev_le 14 196 _ _ _ (by kernel_rfl)
theorem unk26 : evW 196 [.int .i64 26] [] = some (.ret (bitsA (List.replicate 26 2)), []) := ev_le 14 196 _ _ _ (by kernel_rfl)
theorem unk27 : evW 196 [.int .i64 27] [] = some (.ret (bitsA (List.replicate 27 2)), []) := ev_le 14 196 _ _ _ (by kernel_rfl)
theorem unk28 : evW 196 [.int .i64 28] [] = some (.ret (bitsA (List.replicate 28 2)), []) := ev_le 14 196 _ _ _ (by kernel_rfl)
theorem unk29 : evW 196 [.int .i64 29] [] = some (.ret (bitsA (List.replicate 29 2)), []) := ev_le 14 196 _ _ _ (by kernel_rfl)
theorem unk30 : evW 196 [.int .i64 30] [] = some (.ret (bitsA (List.replicate 30 2)), []) := ev_le 14 196 _ _ _ (by kernel_rfl)
theorem unk31 : evW 196 [.int .i64 31] [] = some (.ret (bitsA (List.replicate 31 2)), []) := ev_le 14 196 _ _ _ (by kernel_rfl)
theorem unk32 : evW 196 [.int .i64 32] [] = some (.ret (bitsA (List.replicate 32 2)), []) := ev_le 14 196 _ _ _ (by kernel_rfl)
theorem unk33 : evW 196 [.int .i64 33] [] = some (.ret (bitsA (List.replicate 33 2)), []) := ev_le 14 196 _ _ _ (by kernel_rfl)
theorem unk34 : evW 196 [.int .i64 34] [] = some (.ret (bitsA (List.replicate 34 2)), []) := ev_le 14 196 _ _ _ (by kernel_rfl)
theorem unk35 : evW 196 [.int .i64 35] [] = some (.ret (bitsA (List.replicate 35 2)), []) := ev_le 14 196 _ _ _ (by kernel_rfl)
theorem unk36 : evW 196 [.int .i64 36] [] = some (.ret (bitsA (List.replicate 36 2)), []) := ev_le 14 196 _ _ _ (by kernel_rfl)
theorem unk37 : evW 196 [.int .i64 37] [] = some (.ret (bitsA (List.replicate 37 2)), []) := ev_le 14 196 _ _ _ (by kernel_rfl)
theorem unk38 : evW 196 [.int .i64 38] [] = some (.ret (bitsA (List.replicate 38 2)), []) := ev_le 14 196 _ _ _ (by kernel_rfl)
theorem unk39 : evW 196 [.int .i64 39] [] = some (.ret (bitsA (List.replicate 39 2)), []) := ev_le 14 196 _ _ _ (by kernel_rfl)
theorem unk40 : evW 196 [.int .i64 40] [] = some (.ret (bitsA (List.replicate 40 2)), []) := ev_le 14 196 _ _ _ (by kernel_rfl)
theorem unk41 : evW 196 [.int .i64 41] [] = some (.ret (bitsA (List.replicate 41 2)), []) := ev_le 14 196 _ _ _ (by kernel_rfl)
theorem unk42 : evW 196 [.int .i64 42] [] = some (.ret (bitsA (List.replicate 42 2)), []) := ev_le 14 196 _ _ _ (by kernel_rfl)
theorem unk43 : evW 196 [.int .i64 43] [] = some (.ret (bitsA (List.replicate 43 2)), []) := ev_le 14 196 _ _ _ (by kernel_rfl)
theorem unk44 : evW 196 [.int .i64 44] [] = some (.ret (bitsA (List.replicate 44 2)), []) := ev_le 14 196 _ _ _ (by kernel_rfl)
theorem unk45 : evW 196 [.int .i64 45] [] = some (.ret (bitsA (List.replicate 45 2)), []) := ev_le 14 196 _ _ _ (by kernel_rfl)
theorem unk46 : evW 196 [.int .i64 46] [] = some (.ret (bitsA (List.replicate 46 2)), []) := ev_le 14 196 _ _ _ (by kernel_rfl)
theorem unk47 : evW 196 [.int .i64 47] [] = some (.ret (bitsA (List.replicate 47 2)), []) := ev_le 14 196 _ _ _ (by kernel_rfl)
theorem unk48 : evW 196 [.int .i64 48] [] = some (.ret (bitsA (List.replicate 48 2)), []) := ev_le 14 196 _ _ _ (by kernel_rfl)
theorem unk49 : evW 196 [.int .i64 49] [] = some (.ret (bitsA (List.replicate 49 2)), []) := ev_le 14 196 _ _ _ (by kernel_rfl)
theorem unk50 : evW 196 [.int .i64 50] [] = some (.ret (bitsA (List.replicate 50 2)), []) := ev_le 14 196 _ _ _ (by kernel_rfl)
theorem unk51 : evW 196 [.int .i64 51] [] = some (.ret (bitsA (List.replicate 51 2)), []) := ev_le 14 196 _ _ _ (by kernel_rfl)
theorem unk52 : evW 196 [.int .i64 52] [] = some (.ret (bitsA (List.replicate 52 2)), []) := ev_le 14 196 _ _ _ (by kernel_rfl)
theorem unk53 : evW 196 [.int .i64 53] [] = some (.ret (bitsA (List.replicate 53 2)), []) := ev_le 14 196 _ _ _ (by kernel_rfl)
theorem unk54 : evW 196 [.int .i64 54] [] = some (.ret (bitsA (List.replicate 54 2)), []) := ev_le 14 196 _ _ _ (by kernel_rfl)
theorem unk55 : evW 196 [.int .i64 55] [] = some (.ret (bitsA (List.replicate 55 2)), []) := ev_le 14 196 _ _ _ (by kernel_rfl)
theorem unk56 : evW 196 [.int .i64 56] [] = some (.ret (bitsA (List.replicate 56 2)), []) := ev_le 14 196 _ _ _ (by kernel_rfl)
theorem unk57 : evW 196 [.int .i64 57] [] = some (.ret (bitsA (List.replicate 57 2)), []) := ev_le 14 196 _ _ _ (by kernel_rfl)
theorem unk58 : evW 196 [.int .i64 58] [] = some (.ret (bitsA (List.replicate 58 2)), []) := ev_le 14 196 _ _ _ (by kernel_rfl)
theorem unk59 : evW 196 [.int .i64 59] [] = some (.ret (bitsA (List.replicate 59 2)), []) := ev_le 14 196 _ _ _ (by kernel_rfl)
theorem unk60 : evW 196 [.int .i64 60] [] = some (.ret (bitsA (List.replicate 60 2)), []) := ev_le 14 196 _ _ _ (by kernel_rfl)
theorem unk61 : evW 196 [.int .i64 61] [] = some (.ret (bitsA (List.replicate 61 2)), []) := ev_le 14 196 _ _ _ (by kernel_rfl)
theorem unk62 : evW 196 [.int .i64 62] [] = some (.ret (bitsA (List.replicate 62 2)), []) := ev_le 14 196 _ _ _ (by kernel_rfl)
theorem unk63 : evW 196 [.int .i64 63] [] = some (.ret (bitsA (List.replicate 63 2)), []) := ev_le 14 196 _ _ _ (by kernel_rfl)
theorem unk64 : evW 196 [.int .i64 64] [] = some (.ret (bitsA (List.replicate 64 2)), []) := ev_le 14 196 _ _ _ (by kernel_rfl)
theorem run196 : ∀ {n : Nat}, n ≤ 64 → evW 196 [.int .i64 n] [] = some (.ret (bitsA (List.replicate n 2)), [])
  | 0, _ => unk0
  | 1, _ => unk1
  | 2, _ => unk2
  | 3, _ => unk3
  | 4, _ => unk4
  | 5, _ => unk5
  | 6, _ => unk6
  | 7, _ => unk7
  | 8, _ => unk8
  | 9, _ => unk9
  | 10, _ => unk10
  | 11, _ => unk11
  | 12, _ => unk12
  | 13, _ => unk13
  | 14, _ => unk14
  | 15, _ => unk15
  | 16, _ => unk16
  | 17, _ => unk17
  | 18, _ => unk18
  | 19, _ => unk19
  | 20, _ => unk20
  | 21, _ => unk21
  | 22, _ => unk22
  | 23, _ => unk23
  | 24, _ => unk24
  | 25, _ => unk25
  | 26, _ => unk26
  | 27, _ => unk27
  | 28, _ => unk28
  | 29, _ => unk29
  | 30, _ => unk30
  | 31, _ => unk31
  | 32, _ => unk32
  | 33, _ => unk33
  | 34, _ => unk34
  | 35, _ => unk35
  | 36, _ => unk36
  | 37, _ => unk37
  | 38, _ => unk38
  | 39, _ => unk39
  | 40, _ => unk40
  | 41, _ => unk41
  | 42, _ => unk42
  | 43, _ => unk43
  | 44, _ => unk44
  | 45, _ => unk45
  | 46, _ => unk46
  | 47, _ => unk47
  | 48, _ => unk48
  | 49, _ => unk49
  | 50, _ => unk50
  | 51, _ => unk51
  | 52, _ => unk52
  | 53, _ => unk53
  | 54, _ => unk54
  | 55, _ => unk55
  | 56, _ => unk56
  | 57, _ => unk57
  | 58, _ => unk58
  | 59, _ => unk59
  | 60, _ => unk60
  | 61, _ => unk61
  | 62, _ => unk62
  | 63, _ => unk63
  | 64, _ => unk64
  | n + 65, h => by omega
end Go.Proofs.YtdhcgankmhpgeaaGreat.M
namespace Go.Proofs.YtdhcgankmhpgeaaGreat.M
open Go
set_option linter.unusedSimpArgs false
set_option linter.unusedVariables false
set_option maxRecDepth 100000
set_option maxHeartbeats 4000000
attribute [local congr] br_congr ob2_congr cnd_congr gdK_congr ob_congr clK_congr finK_congr reg_congr pkK_congr kTK_congr dlT_congr gck_congr iff2_congr sel_congr dPn_congr apJ_congr nmK_congr kTo_congr fzO_congr rcK_congr lvB_congr crK_congr cdB_congr
def knownB : List Int → Bool
  | [] => false
  | x :: r => decide (maxF x r ≤ 1)
theorem isP_len {bs : List Int} (h : isP bs = true) : 1 ≤ bs.length ∧ bs.length ≤ 64 := by
  simp only [isP, Bool.and_eq_true, decide_eq_true_eq] at h
  omega
theorem run195 {bs : List Int} (h : isP bs = true) : evW 195 [bitsA bs] [] = some (.ret (.bool (knownB bs)), []) := by
  have hl := isP_len h
  cases bs with
  | nil => simp at hl
  | cons x r =>
    have h3 := run268 (x := x) (bs := r) (by omega)
    rw [w195 rfl]
    conv => lhs; arg 2; whnf
    simp +contextual -implicitDefEqProofs (maxSteps := 10000000) only [↓wk0, ↓wk1, ↓wk2, ↓wk3, ↓wk4, ↓wk5, ↓wk6, ↓wk7, ↓wk8, ↓wk9, ↓wk10, ↓wk11, ↓wt0, ↓wt1, ↓wt2, ↓wt3, ↓lv195, ↓fz195, ↓reduceIte, wu0, wu1, Nat.reduceEqDiff, Nat.reduceLT, Nat.reduceAdd, Nat.reduceMul, Nat.reduceSub, Nat.reduceDiv, reduceCtorEq, Int.reduceAdd, Int.reduceLE, Int.reduceLT, Int.reduceToNat, Int.reduceEq, Int.reduceBEq, Nat.reduceLeDiff, Nat.reduceLeDiff, UInt8.reduceToNat, h3, knownB, br_eq, br_same]
theorem run232 {bs : List Int} (h : isP bs = true) : evW 232 [bitsA bs] [] = some (.ret (.tup [.bool (knownB bs), okE]), []) := by
  have hl := isP_len h
  have h2 := run188 (bs := bs) (by omega)
  rw [h] at h2
  cases bs with
  | nil => simp at hl
  | cons x r =>
    have h3 := run296 (x := x) (bs := r) (by omega)
    rw [w232 rfl]
    conv => lhs; arg 2; whnf
    simp +contextual -implicitDefEqProofs (maxSteps := 10000000) only [↓wk0, ↓wk1, ↓wk2, ↓wk3, ↓wk4, ↓wk5, ↓wk6, ↓wk7, ↓wk8, ↓wk9, ↓wk10, ↓wk11, ↓wt0, ↓wt1, ↓wt2, ↓wt3, ↓lv232, ↓fz232, ↓reduceIte, wu0, wu1, Nat.reduceEqDiff, Nat.reduceLT, Nat.reduceAdd, Nat.reduceMul, Nat.reduceSub, Nat.reduceDiv, reduceCtorEq, Int.reduceAdd, Int.reduceLE, Int.reduceLT, Int.reduceToNat, Int.reduceEq, Int.reduceBEq, Nat.reduceLeDiff, Nat.reduceLeDiff, UInt8.reduceToNat, h2, h3, knownB, okE, br_eq, br_same]
theorem run194 {xs bs : List Int} (hx : isP xs = true) (hb : isP bs = true) (hl : xs.length = bs.length) : evW 194 [.agg [bitsA xs, bitsA bs]] [] = some (.ret (.bool true), []) := by
  have l1 := isP_len hx
  have l2 := isP_len hb
  have h1 := run188 (bs := xs) (by omega)
  have h2 := run188 (bs := bs) (by omega)
  rw [hx] at h1
  rw [hb] at h2
  have he : (((xs.length : Nat) : Int) == (bs.length : Nat)) = true := by simp [hl]
  rw [w194 rfl]
  conv => lhs; arg 2; whnf
  simp +contextual -implicitDefEqProofs (maxSteps := 10000000) only [↓wk0, ↓wk1, ↓wk2, ↓wk3, ↓wk4, ↓wk5, ↓wk6, ↓wk7, ↓wk8, ↓wk9, ↓wk10, ↓wk11, ↓wt0, ↓wt1, ↓wt2, ↓wt3, ↓lv194, ↓fz194, ↓reduceIte, wu0, wu1, Nat.reduceEqDiff, Nat.reduceLT, Nat.reduceAdd, Nat.reduceMul, Nat.reduceSub, Nat.reduceDiv, reduceCtorEq, Int.reduceAdd, Int.reduceLE, Int.reduceLT, Int.reduceToNat, Int.reduceEq, Int.reduceBEq, Nat.reduceLeDiff, Nat.reduceLeDiff, UInt8.reduceToNat, h1, h2, he, br_eq, br_same]
theorem run100 {x y : Int} : evW 100 [.int .u64 x, .int .u64 y] [] = some (.ret (.int .u64 (IntKind.u64.wrap (x + y))), []) := by
  rw [w100 rfl]
  conv => lhs; arg 2; whnf
  simp +contextual -implicitDefEqProofs (maxSteps := 10000000) only [↓wk0, ↓wk1, ↓wk2, ↓wk3, ↓wk4, ↓wk5, ↓wk6, ↓wk7, ↓wk8, ↓wk9, ↓wk10, ↓wk11, ↓wt0, ↓wt1, ↓wt2, ↓wt3, ↓lv100, ↓fz100, ↓reduceIte, wu0, wu1, Nat.reduceEqDiff, Nat.reduceLT, Nat.reduceAdd, Nat.reduceMul, Nat.reduceSub, Nat.reduceDiv, reduceCtorEq, Int.reduceAdd, Int.reduceLE, Int.reduceLT, Int.reduceToNat, Int.reduceEq, Int.reduceBEq, Nat.reduceLeDiff, Nat.reduceLeDiff, UInt8.reduceToNat, leave_lvB, callD_cdB, lvK_lvB, lvP_lvB, br_eq, br_same]
theorem run101 {x y : Int} : evW 101 [.int .u64 x, .int .u64 y] [] = some (.ret (.int .u64 (IntKind.u64.wrap (x - y))), []) := by
  rw [w101 rfl]
  conv => lhs; arg 2; whnf
  simp +contextual -implicitDefEqProofs (maxSteps := 10000000) only [↓wk0, ↓wk1, ↓wk2, ↓wk3, ↓wk4, ↓wk5, ↓wk6, ↓wk7, ↓wk8, ↓wk9, ↓wk10, ↓wk11, ↓wt0, ↓wt1, ↓wt2, ↓wt3, ↓lv101, ↓fz101, ↓reduceIte, wu0, wu1, Nat.reduceEqDiff, Nat.reduceLT, Nat.reduceAdd, Nat.reduceMul, Nat.reduceSub, Nat.reduceDiv, reduceCtorEq, Int.reduceAdd, Int.reduceLE, Int.reduceLT, Int.reduceToNat, Int.reduceEq, Int.reduceBEq, Nat.reduceLeDiff, Nat.reduceLeDiff, UInt8.reduceToNat, leave_lvB, callD_cdB, lvK_lvB, lvP_lvB, br_eq, br_same]
theorem run102 {x y : Int} : evW 102 [.int .u64 x, .int .u64 y] [] = some (.ret (.int .u64 (IntKind.u64.wrap (x * y))), []) := by
  rw [w102 rfl]
  conv => lhs; arg 2; whnf
  simp +contextual -implicitDefEqProofs (maxSteps := 10000000) only [↓wk0, ↓wk1, ↓wk2, ↓wk3, ↓wk4, ↓wk5, ↓wk6, ↓wk7, ↓wk8, ↓wk9, ↓wk10, ↓wk11, ↓wt0, ↓wt1, ↓wt2, ↓wt3, ↓lv102, ↓fz102, ↓reduceIte, wu0, wu1, Nat.reduceEqDiff, Nat.reduceLT, Nat.reduceAdd, Nat.reduceMul, Nat.reduceSub, Nat.reduceDiv, reduceCtorEq, Int.reduceAdd, Int.reduceLE, Int.reduceLT, Int.reduceToNat, Int.reduceEq, Int.reduceBEq, Nat.reduceLeDiff, Nat.reduceLeDiff, UInt8.reduceToNat, leave_lvB, callD_cdB, lvK_lvB, lvP_lvB, br_eq, br_same]
theorem run104 {x y : Int} : evW 104 [.int .u64 x, .int .u64 y] [] = some (.ret (.bool (decide (x < y))), []) := by
  rw [w104 rfl]
  conv => lhs; arg 2; whnf
  simp +contextual -implicitDefEqProofs (maxSteps := 10000000) only [↓wk0, ↓wk1, ↓wk2, ↓wk3, ↓wk4, ↓wk5, ↓wk6, ↓wk7, ↓wk8, ↓wk9, ↓wk10, ↓wk11, ↓wt0, ↓wt1, ↓wt2, ↓wt3, ↓lv104, ↓fz104, ↓reduceIte, wu0, wu1, Nat.reduceEqDiff, Nat.reduceLT, Nat.reduceAdd, Nat.reduceMul, Nat.reduceSub, Nat.reduceDiv, reduceCtorEq, Int.reduceAdd, Int.reduceLE, Int.reduceLT, Int.reduceToNat, Int.reduceEq, Int.reduceBEq, Nat.reduceLeDiff, Nat.reduceLeDiff, UInt8.reduceToNat, leave_lvB, callD_cdB, lvK_lvB, lvP_lvB, br_eq, br_same]
def cmpF (op : Int → Int → Int) (xs bs : List Int) : List Int := br (knownB xs && knownB bs) (ofL (op (numF 0 0 xs) (numF 0 0 bs)) xs.length 0 (List.replicate xs.length 0)) (List.replicate xs.length 2)
theorem run99 {xs bs : List Int} (hx : isP xs = true) (hb : isP bs = true) (hl : xs.length = bs.length) {g : Nat} {op : Int → Int → Int} (hg : ∀ x y, evW g [.int .u64 x, .int .u64 y] [] = some (.ret (.int .u64 (op x y)), [])) :
    evW 99 [.agg [bitsA xs, bitsA bs], .fn g []] [] = some (.ret (.tup [bitsA (cmpF op xs bs), okE]), []) := by
  have l1 := isP_len hx
  have l2 := isP_len hb
  have h1 := run194 hx hb hl
  have h2 := run195 hx
  have h3 := run195 hb
  have h4 := run198 (bs := xs) (by omega)
  have h5 := run198 (bs := bs) (by omega)
  have h6 := fun k0 => run197 (k0 := k0) (n := xs.length) (by omega)
  have h7 := run196 (n := xs.length) (by omega)
  rw [w99 rfl]
  conv => lhs; arg 2; whnf
  simp +contextual -implicitDefEqProofs (maxSteps := 10000000) only [↓wk0, ↓wk1, ↓wk2, ↓wk3, ↓wk4, ↓wk5, ↓wk6, ↓wk7, ↓wk8, ↓wk9, ↓wk10, ↓wk11, ↓tyr3, ↓tyz3, ↓tyr4, ↓tyz4, ↓tyr151, ↓tyz151, ↓tyr153, ↓tyz153, ↓tyr155, ↓tyz155, ↓ld3, ↓sto3, ↓mki3, ↓ld4, ↓sto4, ↓bbe4, ↓bbn4, ↓ld151, ↓sto151, ↓len151, ↓nle151, ↓nln151, ↓ia151, ↓sc151, ↓bs151, ↓mk151, ↓ap151, ↓ld153, ↓sto153, ↓fa153_0, ↓fl153_0, ↓fa153_1, ↓fl153_1, ↓bl153, ↓ld155, ↓sto155, ↓mki155, ↓cv3_155, ↓cv3_162, ↓cv3_299, ↓cv155_2, ↓cv155_3, ↓cv155_162, ↓cv155_326, ↓lv99, ↓fz99, ↓tbr99, ↓reduceIte, wu0, wu1, Nat.reduceEqDiff, Nat.reduceLT, Nat.reduceAdd, Nat.reduceMul, Nat.reduceSub, Nat.reduceDiv, reduceCtorEq, Int.reduceAdd, Int.reduceLE, Int.reduceLT, Int.reduceToNat, Int.reduceEq, Int.reduceBEq, Nat.reduceLeDiff, Nat.reduceLeDiff, UInt8.reduceToNat, h1, h2, h3, h4, h5, h6, h7, hg, cmpF, br_true, br_false, okE, br_eq, br_same]
theorem run35 {xs bs : List Int} (hx : isP xs = true) (hb : isP bs = true) (hl : xs.length = bs.length) : evW 35 [bitsA xs, bitsA bs] [] = some (.ret (.tup [bitsA (cmpF (fun x y => IntKind.u64.wrap (x + y)) xs bs), okE]), []) := by
  have h1 := run99 hx hb hl (g := 100) (op := fun x y => IntKind.u64.wrap (x + y)) (fun x y => run100)
  rw [w35 rfl]
  conv => lhs; arg 2; whnf
  simp +contextual -implicitDefEqProofs (maxSteps := 10000000) only [↓wk0, ↓wk1, ↓wk2, ↓wk3, ↓wk4, ↓wk5, ↓wk6, ↓wk7, ↓wk8, ↓wk9, ↓wk10, ↓wk11, ↓wt0, ↓wt1, ↓wt2, ↓wt3, ↓lv35, ↓fz35, ↓reduceIte, wu0, wu1, Nat.reduceEqDiff, Nat.reduceLT, Nat.reduceAdd, Nat.reduceMul, Nat.reduceSub, Nat.reduceDiv, reduceCtorEq, Int.reduceAdd, Int.reduceLE, Int.reduceLT, Int.reduceToNat, Int.reduceEq, Int.reduceBEq, Nat.reduceLeDiff, Nat.reduceLeDiff, UInt8.reduceToNat, h1, okE, br_eq, br_same]
theorem run36 {xs bs : List Int} (hx : isP xs = true) (hb : isP bs = true) (hl : xs.length = bs.length) : evW 36 [bitsA xs, bitsA bs] [] = some (.ret (.tup [bitsA (cmpF (fun x y => IntKind.u64.wrap (x - y)) xs bs), okE]), []) := by
  have h1 := run99 hx hb hl (g := 101) (op := fun x y => IntKind.u64.wrap (x - y)) (fun x y => run101)
  rw [w36 rfl]
  conv => lhs; arg 2; whnf
  simp +contextual -implicitDefEqProofs (maxSteps := 10000000) only [↓wk0, ↓wk1, ↓wk2, ↓wk3, ↓wk4, ↓wk5, ↓wk6, ↓wk7, ↓wk8, ↓wk9, ↓wk10, ↓wk11, ↓wt0, ↓wt1, ↓wt2, ↓wt3, ↓lv36, ↓fz36, ↓reduceIte, wu0, wu1, Nat.reduceEqDiff, Nat.reduceLT, Nat.reduceAdd, Nat.reduceMul, Nat.reduceSub, Nat.reduceDiv, reduceCtorEq, Int.reduceAdd, Int.reduceLE, Int.reduceLT, Int.reduceToNat, Int.reduceEq, Int.reduceBEq, Nat.reduceLeDiff, Nat.reduceLeDiff, UInt8.reduceToNat, h1, okE, br_eq, br_same]
theorem run37 {xs bs : List Int} (hx : isP xs = true) (hb : isP bs = true) (hl : xs.length = bs.length) : evW 37 [bitsA xs, bitsA bs] [] = some (.ret (.tup [bitsA (cmpF (fun x y => IntKind.u64.wrap (x * y)) xs bs), okE]), []) := by
  have h1 := run99 hx hb hl (g := 102) (op := fun x y => IntKind.u64.wrap (x * y)) (fun x y => run102)
  rw [w37 rfl]
  conv => lhs; arg 2; whnf
  simp +contextual -implicitDefEqProofs (maxSteps := 10000000) only [↓wk0, ↓wk1, ↓wk2, ↓wk3, ↓wk4, ↓wk5, ↓wk6, ↓wk7, ↓wk8, ↓wk9, ↓wk10, ↓wk11, ↓wt0, ↓wt1, ↓wt2, ↓wt3, ↓lv37, ↓fz37, ↓reduceIte, wu0, wu1, Nat.reduceEqDiff, Nat.reduceLT, Nat.reduceAdd, Nat.reduceMul, Nat.reduceSub, Nat.reduceDiv, reduceCtorEq, Int.reduceAdd, Int.reduceLE, Int.reduceLT, Int.reduceToNat, Int.reduceEq, Int.reduceBEq, Nat.reduceLeDiff, Nat.reduceLeDiff, UInt8.reduceToNat, h1, okE, br_eq, br_same]
def lessF (xs bs : List Int) : Bool := knownB xs && (knownB bs && decide (numF 0 0 xs < numF 0 0 bs))
theorem run103 {xs bs : List Int} (hx : isP xs = true) (hb : isP bs = true) (hl : xs.length = bs.length) : evW 103 [.agg [bitsA xs, bitsA bs], .fn 104 []] [] = some (.ret (.tup [.bool (lessF xs bs), okE]), []) := by
  have l1 := isP_len hx
  have l2 := isP_len hb
  have h1 := run194 hx hb hl
  have h2 := run195 hx
  have h3 := run195 hb
  have h4 := run198 (bs := xs) (by omega)
  have h5 := run198 (bs := bs) (by omega)
  rw [w103 rfl]
  conv => lhs; arg 2; whnf
  simp +contextual -implicitDefEqProofs (maxSteps := 10000000) only [↓wk0, ↓wk1, ↓wk2, ↓wk3, ↓wk4, ↓wk5, ↓wk6, ↓wk7, ↓wk8, ↓wk9, ↓wk10, ↓wk11, ↓tyr4, ↓tyz4, ↓tyr151, ↓tyz151, ↓tyr153, ↓tyz153, ↓tyr155, ↓tyz155, ↓ld4, ↓sto4, ↓bbe4, ↓bbn4, ↓ld151, ↓sto151, ↓len151, ↓nle151, ↓nln151, ↓ia151, ↓sc151, ↓bs151, ↓mk151, ↓ap151, ↓ld153, ↓sto153, ↓fa153_0, ↓fl153_0, ↓fa153_1, ↓fl153_1, ↓bl153, ↓ld155, ↓sto155, ↓mki155, ↓cv155_2, ↓cv155_3, ↓cv155_162, ↓cv155_326, ↓lv103, ↓fz103, ↓tbr103, ↓reduceIte, wu0, wu1, Nat.reduceEqDiff, Nat.reduceLT, Nat.reduceAdd, Nat.reduceMul, Nat.reduceSub, Nat.reduceDiv, reduceCtorEq, Int.reduceAdd, Int.reduceLE, Int.reduceLT, Int.reduceToNat, Int.reduceEq, Int.reduceBEq, Nat.reduceLeDiff, Nat.reduceLeDiff, UInt8.reduceToNat, h1, h2, h3, h4, h5, run104, lessF, okE, br_eq, br_same]
theorem run39 {xs bs : List Int} (hx : isP xs = true) (hb : isP bs = true) (hl : xs.length = bs.length) : evW 39 [bitsA xs, bitsA bs] [] = some (.ret (.tup [.bool (lessF xs bs), okE]), []) := by
  have h1 := run103 hx hb hl
  rw [w39 rfl]
  conv => lhs; arg 2; whnf
  simp +contextual -implicitDefEqProofs (maxSteps := 10000000) only [↓wk0, ↓wk1, ↓wk2, ↓wk3, ↓wk4, ↓wk5, ↓wk6, ↓wk7, ↓wk8, ↓wk9, ↓wk10, ↓wk11, ↓wt0, ↓wt1, ↓wt2, ↓wt3, ↓lv39, ↓fz39, ↓reduceIte, wu0, wu1, Nat.reduceEqDiff, Nat.reduceLT, Nat.reduceAdd, Nat.reduceMul, Nat.reduceSub, Nat.reduceDiv, reduceCtorEq, Int.reduceAdd, Int.reduceLE, Int.reduceLT, Int.reduceToNat, Int.reduceEq, Int.reduceBEq, Nat.reduceLeDiff, Nat.reduceLeDiff, UInt8.reduceToNat, h1, okE, br_eq, br_same]
end Go.Proofs.YtdhcgankmhpgeaaGreat.M
namespace Go.Proofs.YtdhcgankmhpgeaaGreat.M
open Go
set_option linter.unusedSimpArgs false
set_option linter.unusedVariables false
set_option maxRecDepth 100000
set_option maxHeartbeats 4000000
attribute [local congr] br_congr ob2_congr cnd_congr gdK_congr ob_congr clK_congr finK_congr reg_congr pkK_congr kTK_congr dlT_congr gck_congr iff2_congr sel_congr dPn_congr apJ_congr nmK_congr kTo_congr fzO_congr rcK_congr lvB_congr crK_congr cdB_congr
theorem run185 {k l : Int} {b1 b2 b3 : Bool} : evW 185 [tyA k l, .bool b1, .bool b2, .bool b3] [] = some (.ret (.bool (b1 || (l == 0))), []) := by
  rw [w185 rfl]
  conv => lhs; arg 2; whnf
  simp +contextual -implicitDefEqProofs (maxSteps := 10000000) only [↓wk0, ↓wk1, ↓wk2, ↓wk3, ↓wk4, ↓wk5, ↓wk6, ↓wk7, ↓wk8, ↓wk9, ↓wk10, ↓wk11, ↓wt0, ↓wt1, ↓wt2, ↓wt3, ↓lv185, ↓fz185, ↓reduceIte, wu0, wu1, Nat.reduceEqDiff, Nat.reduceLT, Nat.reduceAdd, Nat.reduceMul, Nat.reduceSub, Nat.reduceDiv, reduceCtorEq, Int.reduceAdd, Int.reduceLE, Int.reduceLT, Int.reduceToNat, Int.reduceEq, Int.reduceBEq, Nat.reduceLeDiff, Nat.reduceLeDiff, UInt8.reduceToNat, leave_lvB, callD_cdB, lvK_lvB, lvP_lvB, br_eq, br_same]
theorem run187 {k n : Int} {bs : List Int} {b1 b2 b3 : Bool} : evW 187 [vl k n (bitsA bs), .bool b1, .bool b2, .bool b3] [] = some (.ret (.bool ((b1 || (n == 0)) && (b2 || (((bs.length : Nat) : Int) == 0)))), []) := by
  rw [w187 rfl]
  conv => lhs; arg 2; whnf
  simp +contextual -implicitDefEqProofs (maxSteps := 10000000) only [↓wk0, ↓wk1, ↓wk2, ↓wk3, ↓wk4, ↓wk5, ↓wk6, ↓wk7, ↓wk8, ↓wk9, ↓wk10, ↓wk11, ↓wt0, ↓wt1, ↓wt2, ↓wt3, ↓lv187, ↓fz187, ↓reduceIte, wu0, wu1, Nat.reduceEqDiff, Nat.reduceLT, Nat.reduceAdd, Nat.reduceMul, Nat.reduceSub, Nat.reduceDiv, reduceCtorEq, Int.reduceAdd, Int.reduceLE, Int.reduceLT, Int.reduceToNat, Int.reduceEq, Int.reduceBEq, Nat.reduceLeDiff, Nat.reduceLeDiff, UInt8.reduceToNat, leave_lvB, callD_cdB, lvK_lvB, lvP_lvB, br_eq, br_same]
theorem run94 {l : Int} : evW 94 [tyA 4 l] [] = some (.ret (.bool (decide (1 ≤ l) && decide (l ≤ 64))), []) := by
  rw [w94 rfl]
  conv => lhs; arg 2; whnf
  simp +contextual -implicitDefEqProofs (maxSteps := 10000000) only [↓wk0, ↓wk1, ↓wk2, ↓wk3, ↓wk4, ↓wk5, ↓wk6, ↓wk7, ↓wk8, ↓wk9, ↓wk10, ↓wk11, ↓wt0, ↓wt1, ↓wt2, ↓wt3, ↓lv94, ↓fz94, ↓reduceIte, wu0, wu1, Nat.reduceEqDiff, Nat.reduceLT, Nat.reduceAdd, Nat.reduceMul, Nat.reduceSub, Nat.reduceDiv, reduceCtorEq, Int.reduceAdd, Int.reduceLE, Int.reduceLT, Int.reduceToNat, Int.reduceEq, Int.reduceBEq, Nat.reduceLeDiff, Nat.reduceLeDiff, UInt8.reduceToNat, leave_lvB, callD_cdB, lvK_lvB, lvP_lvB, run185, br_eq, br_same]
theorem run94i : evW 94 [tyA 3 0] [] = some (.ret (.bool true), []) := ev_le 20 94 _ _ _ (by kernel_rfl)
theorem run95 {bs : List Int} (hb : isP bs = true) : evW 95 [tyA 4 bs.length, vl 4 0 (bitsA bs)] [] = some (.ret (.bool true), []) := by
  have l1 := isP_len hb
  have h1 := run188 (bs := bs) (by omega)
  rw [hb] at h1
  have e1 : (if (1 : Int) < (bs.length : Nat) then ((bs.length : Nat) : Int) else 1) = (bs.length : Nat) := by split <;> omega
  have e2 : (if (1 : Int) > (bs.length : Nat) then (1 : Int) else (bs.length : Nat)) = (bs.length : Nat) := by split <;> omega
  rw [w95 rfl]
  conv => lhs; arg 2; whnf
  simp +contextual -implicitDefEqProofs (maxSteps := 10000000) only [↓wk0, ↓wk1, ↓wk2, ↓wk3, ↓wk4, ↓wk5, ↓wk6, ↓wk7, ↓wk8, ↓wk9, ↓wk10, ↓wk11, ↓wt0, ↓wt1, ↓wt2, ↓wt3, ↓lv95, ↓fz95, ↓reduceIte, wu0, wu1, Nat.reduceEqDiff, Nat.reduceLT, Nat.reduceAdd, Nat.reduceMul, Nat.reduceSub, Nat.reduceDiv, reduceCtorEq, Int.reduceAdd, Int.reduceLE, Int.reduceLT, Int.reduceToNat, Int.reduceEq, Int.reduceBEq, Nat.reduceLeDiff, Nat.reduceLeDiff, UInt8.reduceToNat, h1, e1, e2, run187, mmT2, gt_iff_lt, br_eq, br_same]
theorem run95i {n : Int} : evW 95 [tyA 3 0, vl 3 n (.sl 1 [])] [] = some (.ret (.bool (isI n)), []) := by
  have h2 := fun b1 b2 b3 => run187 (k := 3) (n := n) (bs := []) (b1 := b1) (b2 := b2) (b3 := b3)
  simp only [bitsA, List.map_nil] at h2
  rw [w95 rfl]
  conv => lhs; arg 2; whnf
  simp +contextual -implicitDefEqProofs (maxSteps := 10000000) only [↓wk0, ↓wk1, ↓wk2, ↓wk3, ↓wk4, ↓wk5, ↓wk6, ↓wk7, ↓wk8, ↓wk9, ↓wk10, ↓wk11, ↓wt0, ↓wt1, ↓wt2, ↓wt3, ↓lv95, ↓fz95, ↓reduceIte, wu0, wu1, Nat.reduceEqDiff, Nat.reduceLT, Nat.reduceAdd, Nat.reduceMul, Nat.reduceSub, Nat.reduceDiv, reduceCtorEq, Int.reduceAdd, Int.reduceLE, Int.reduceLT, Int.reduceToNat, Int.reduceEq, Int.reduceBEq, Nat.reduceLeDiff, Nat.reduceLeDiff, UInt8.reduceToNat, h2, List.length_nil, isI, br_eq, br_same]
theorem run32 {bs : List Int} (hb : isP bs = true) : evW 32 [tyA 4 bs.length, vl 4 0 (bitsA bs)] [] = some (.ret (.bool true), []) := by
  have h1 := run95 hb
  have l1 : decide ((1 : Int) ≤ (bs.length : Nat)) = true := by have := isP_len hb; simp; omega
  have l2 : decide (((bs.length : Nat) : Int) ≤ 64) = true := by have := isP_len hb; simp; omega
  rw [w32 rfl]
  conv => lhs; arg 2; whnf
  simp +contextual -implicitDefEqProofs (maxSteps := 10000000) only [↓wk0, ↓wk1, ↓wk2, ↓wk3, ↓wk4, ↓wk5, ↓wk6, ↓wk7, ↓wk8, ↓wk9, ↓wk10, ↓wk11, ↓wt0, ↓wt1, ↓wt2, ↓wt3, ↓lv32, ↓fz32, ↓reduceIte, wu0, wu1, Nat.reduceEqDiff, Nat.reduceLT, Nat.reduceAdd, Nat.reduceMul, Nat.reduceSub, Nat.reduceDiv, reduceCtorEq, Int.reduceAdd, Int.reduceLE, Int.reduceLT, Int.reduceToNat, Int.reduceEq, Int.reduceBEq, Nat.reduceLeDiff, Nat.reduceLeDiff, UInt8.reduceToNat, leave_lvB, callD_cdB, lvK_lvB, lvP_lvB, h1, run94, l1, l2, br_eq, br_same]
theorem run32i {n : Int} : evW 32 [tyA 3 0, vl 3 n (.sl 1 [])] [] = some (.ret (.bool (isI n)), []) := by
  rw [w32 rfl]
  conv => lhs; arg 2; whnf
  simp +contextual -implicitDefEqProofs (maxSteps := 10000000) only [↓wk0, ↓wk1, ↓wk2, ↓wk3, ↓wk4, ↓wk5, ↓wk6, ↓wk7, ↓wk8, ↓wk9, ↓wk10, ↓wk11, ↓wt0, ↓wt1, ↓wt2, ↓wt3, ↓lv32, ↓fz32, ↓reduceIte, wu0, wu1, Nat.reduceEqDiff, Nat.reduceLT, Nat.reduceAdd, Nat.reduceMul, Nat.reduceSub, Nat.reduceDiv, reduceCtorEq, Int.reduceAdd, Int.reduceLE, Int.reduceLT, Int.reduceToNat, Int.reduceEq, Int.reduceBEq, Nat.reduceLeDiff, Nat.reduceLeDiff, UInt8.reduceToNat, leave_lvB, callD_cdB, lvK_lvB, lvP_lvB, run95i, run94i, br_eq, br_same]
theorem run200e : evW 200 [.sl 4 [], .sl 4 [], .fn 105 []] [] = some (.ret (.bool true), []) := ev_le 20 200 _ _ _ (by kernel_rfl)
/-- Whether bits are the same. -/
def eqB (xs bs : List Int) : Bool := decide (((xs.length : Nat) : Int) = (bs.length : Nat)) && eqFrom xs bs
theorem eqFrom_self : ∀ xs, eqFrom xs xs = true
  | [] => rfl
  | x :: r => by simp only [eqFrom, beq_self_eq_true, eqFrom_self r, Bool.and_self]
theorem run105 {k k2 : Int} {xs bs : List Int} (hb : xs.length < 4611686018427387904) : evW 105 [vl k 0 (bitsA xs), vl k2 0 (bitsA bs)] [] = some (.ret (.bool (eqB xs bs)), []) := by
  have h1 := run199 (xs := xs) (bs := bs) hb
  rw [w105 rfl]
  conv => lhs; arg 2; whnf
  simp +contextual -implicitDefEqProofs (maxSteps := 10000000) only [↓wk0, ↓wk1, ↓wk2, ↓wk3, ↓wk4, ↓wk5, ↓wk6, ↓wk7, ↓wk8, ↓wk9, ↓wk10, ↓wk11, ↓wt0, ↓wt1, ↓wt2, ↓wt3, ↓lv105, ↓fz105, ↓reduceIte, wu0, wu1, Nat.reduceEqDiff, Nat.reduceLT, Nat.reduceAdd, Nat.reduceMul, Nat.reduceSub, Nat.reduceDiv, reduceCtorEq, Int.reduceAdd, Int.reduceLE, Int.reduceLT, Int.reduceToNat, Int.reduceEq, Int.reduceBEq, Nat.reduceLeDiff, Nat.reduceLeDiff, UInt8.reduceToNat, leave_lvB, callD_cdB, lvK_lvB, lvP_lvB, h1, run200e, eqB, br_eq, br_same]
theorem run40 {xs bs : List Int} (hx : isP xs = true) (hb : isP bs = true) (hl : xs.length = bs.length) : evW 40 [tyA 4 xs.length, vl 4 0 (bitsA xs), vl 4 0 (bitsA bs)] [] = some (.ret (.tup [.bool (eqB xs bs), okE]), []) := by
  have l1 := isP_len hx
  have h1 := run32 hx
  have h2 := run32 hb
  rw [← hl] at h2
  have h3 := run105 (k := 4) (k2 := 4) (xs := xs) (bs := bs) (by omega)
  rw [w40 rfl]
  conv => lhs; arg 2; whnf
  simp +contextual -implicitDefEqProofs (maxSteps := 10000000) only [↓wk0, ↓wk1, ↓wk2, ↓wk3, ↓wk4, ↓wk5, ↓wk6, ↓wk7, ↓wk8, ↓wk9, ↓wk10, ↓wk11, ↓wt0, ↓wt1, ↓wt2, ↓wt3, ↓lv40, ↓fz40, ↓reduceIte, wu0, wu1, Nat.reduceEqDiff, Nat.reduceLT, Nat.reduceAdd, Nat.reduceMul, Nat.reduceSub, Nat.reduceDiv, reduceCtorEq, Int.reduceAdd, Int.reduceLE, Int.reduceLT, Int.reduceToNat, Int.reduceEq, Int.reduceBEq, Nat.reduceLeDiff, Nat.reduceLeDiff, UInt8.reduceToNat, leave_lvB, callD_cdB, lvK_lvB, lvP_lvB, h1, h2, h3, okE, br_eq, br_same]
end Go.Proofs.YtdhcgankmhpgeaaGreat.M
namespace Go.Proofs.YtdhcgankmhpgeaaGreat.M
open Go
set_option linter.unusedSimpArgs false
set_option linter.unusedVariables false
set_option maxRecDepth 100000
set_option maxHeartbeats 4000000
attribute [local congr] br_congr ob2_congr cnd_congr gdK_congr ob_congr clK_congr finK_congr reg_congr pkK_congr kTK_congr dlT_congr gck_congr iff2_congr sel_congr dPn_congr apJ_congr nmK_congr kTo_congr fzO_congr rcK_congr lvB_congr crK_congr cdB_congr
def floorF (a b : Int) : Int := br (!(a.tmod b == 0) && !(decide (a < 0) == decide (b < 0))) (IntKind.i64.wrap (IntKind.i64.wrap (a.tdiv b) - 1)) (IntKind.i64.wrap (a.tdiv b))
def intN (op : Int → Int → Int) (z : Bool) (a b : Int) : Int := br (isI a) (br (isI b) (br (z && (b == 0)) 0 (br (isI (op a b)) (op a b) 0)) 0) 0
def intE (op : Int → Int → Int) (z : Bool) (a b : Int) : Int := br (isI a) (br (isI b) (br (z && (b == 0)) 20 (br (isI (op a b)) 0 19)) 2) 2
def addI (a b : Int) : Int := IntKind.i64.wrap (a + b)
def subI (a b : Int) : Int := IntKind.i64.wrap (a - b)
def mulI (a b : Int) : Int := IntKind.i64.wrap (a * b)
def modI (a b : Int) : Int := IntKind.i64.wrap (a - IntKind.i64.wrap (b * floorF a b))
theorem run107 {a b : Int} (h : (b == 0) = false) : evW 107 [.int .i64 a, .int .i64 b] [] = some (.ret (.int .i64 (floorF a b)), []) := by
  rw [w107 rfl]
  conv => lhs; arg 2; whnf
  simp +contextual -implicitDefEqProofs (maxSteps := 10000000) only [↓wk0, ↓wk1, ↓wk2, ↓wk3, ↓wk4, ↓wk5, ↓wk6, ↓wk7, ↓wk8, ↓wk9, ↓wk10, ↓wk11, ↓wt0, ↓wt1, ↓wt2, ↓wt3, ↓lv107, ↓fz107, ↓bin_quo, ↓bin_rem, ↓reduceIte, wu0, wu1, Nat.reduceEqDiff, Nat.reduceLT, Nat.reduceAdd, Nat.reduceMul, Nat.reduceSub, Nat.reduceDiv, reduceCtorEq, Int.reduceAdd, Int.reduceLE, Int.reduceLT, Int.reduceToNat, Int.reduceEq, Int.reduceBEq, Nat.reduceLeDiff, Nat.reduceLeDiff, UInt8.reduceToNat, leave_lvB, callD_cdB, lvK_lvB, lvP_lvB, h, floorF, br_true, br_false, br_eq, br_same]
theorem run43add {a b : Int} : evW 43 [.str [43], .int .i64 a, .int .i64 b] [] = some (.ret (.tup [.int .i64 (intN addI false a b), .int .i64 (intE addI false a b)]), []) := by
  rw [w43 rfl]
  conv => lhs; arg 2; whnf
  simp +contextual -implicitDefEqProofs (maxSteps := 10000000) only [↓wk0, ↓wk1, ↓wk2, ↓wk3, ↓wk4, ↓wk5, ↓wk6, ↓wk7, ↓wk8, ↓wk9, ↓wk10, ↓wk11, ↓wt0, ↓wt1, ↓wt2, ↓wt3, ↓lv43, ↓fz43, ↓reduceIte, wu0, wu1, Nat.reduceEqDiff, Nat.reduceLT, Nat.reduceAdd, Nat.reduceMul, Nat.reduceSub, Nat.reduceDiv, reduceCtorEq, Int.reduceAdd, Int.reduceLE, Int.reduceLT, Int.reduceToNat, Int.reduceEq, Int.reduceBEq, Nat.reduceLeDiff, Nat.reduceLeDiff, UInt8.reduceToNat, leave_lvB, callD_cdB, lvK_lvB, lvP_lvB, run106, intN, intE, br_true, br_false, addI, br_eq, br_same]
theorem run43sub {a b : Int} : evW 43 [.str [45], .int .i64 a, .int .i64 b] [] = some (.ret (.tup [.int .i64 (intN subI false a b), .int .i64 (intE subI false a b)]), []) := by
  rw [w43 rfl]
  conv => lhs; arg 2; whnf
  simp +contextual -implicitDefEqProofs (maxSteps := 10000000) only [↓wk0, ↓wk1, ↓wk2, ↓wk3, ↓wk4, ↓wk5, ↓wk6, ↓wk7, ↓wk8, ↓wk9, ↓wk10, ↓wk11, ↓wt0, ↓wt1, ↓wt2, ↓wt3, ↓lv43, ↓fz43, ↓reduceIte, wu0, wu1, Nat.reduceEqDiff, Nat.reduceLT, Nat.reduceAdd, Nat.reduceMul, Nat.reduceSub, Nat.reduceDiv, reduceCtorEq, Int.reduceAdd, Int.reduceLE, Int.reduceLT, Int.reduceToNat, Int.reduceEq, Int.reduceBEq, Nat.reduceLeDiff, Nat.reduceLeDiff, UInt8.reduceToNat, leave_lvB, callD_cdB, lvK_lvB, lvP_lvB, run106, intN, intE, br_true, br_false, subI, br_eq, br_same]
theorem run43mul {a b : Int} : evW 43 [.str [42], .int .i64 a, .int .i64 b] [] = some (.ret (.tup [.int .i64 (intN mulI false a b), .int .i64 (intE mulI false a b)]), []) := by
  rw [w43 rfl]
  conv => lhs; arg 2; whnf
  simp +contextual -implicitDefEqProofs (maxSteps := 10000000) only [↓wk0, ↓wk1, ↓wk2, ↓wk3, ↓wk4, ↓wk5, ↓wk6, ↓wk7, ↓wk8, ↓wk9, ↓wk10, ↓wk11, ↓wt0, ↓wt1, ↓wt2, ↓wt3, ↓lv43, ↓fz43, ↓reduceIte, wu0, wu1, Nat.reduceEqDiff, Nat.reduceLT, Nat.reduceAdd, Nat.reduceMul, Nat.reduceSub, Nat.reduceDiv, reduceCtorEq, Int.reduceAdd, Int.reduceLE, Int.reduceLT, Int.reduceToNat, Int.reduceEq, Int.reduceBEq, Nat.reduceLeDiff, Nat.reduceLeDiff, UInt8.reduceToNat, leave_lvB, callD_cdB, lvK_lvB, lvP_lvB, run106, intN, intE, br_true, br_false, mulI, br_eq, br_same]
theorem run43div {a b : Int} : evW 43 [.str [47], .int .i64 a, .int .i64 b] [] = some (.ret (.tup [.int .i64 (intN floorF true a b), .int .i64 (intE floorF true a b)]), []) := by
  cases h : (b == 0) with
  | true =>
    rw [w43 rfl]
    conv => lhs; arg 2; whnf
    simp +contextual -implicitDefEqProofs (maxSteps := 10000000) only [↓wk0, ↓wk1, ↓wk2, ↓wk3, ↓wk4, ↓wk5, ↓wk6, ↓wk7, ↓wk8, ↓wk9, ↓wk10, ↓wk11, ↓wt0, ↓wt1, ↓wt2, ↓wt3, ↓lv43, ↓fz43, ↓reduceIte, wu0, wu1, Nat.reduceEqDiff, Nat.reduceLT, Nat.reduceAdd, Nat.reduceMul, Nat.reduceSub, Nat.reduceDiv, reduceCtorEq, Int.reduceAdd, Int.reduceLE, Int.reduceLT, Int.reduceToNat, Int.reduceEq, Int.reduceBEq, Nat.reduceLeDiff, Nat.reduceLeDiff, UInt8.reduceToNat, h, run106, intN, intE, br_true, br_false, floorF, br_eq, br_same]
  | false =>
    have h2 := run107 (a := a) (b := b) h
    rw [w43 rfl]
    conv => lhs; arg 2; whnf
    simp +contextual -implicitDefEqProofs (maxSteps := 10000000) only [↓wk0, ↓wk1, ↓wk2, ↓wk3, ↓wk4, ↓wk5, ↓wk6, ↓wk7, ↓wk8, ↓wk9, ↓wk10, ↓wk11, ↓wt0, ↓wt1, ↓wt2, ↓wt3, ↓lv43, ↓fz43, ↓reduceIte, wu0, wu1, Nat.reduceEqDiff, Nat.reduceLT, Nat.reduceAdd, Nat.reduceMul, Nat.reduceSub, Nat.reduceDiv, reduceCtorEq, Int.reduceAdd, Int.reduceLE, Int.reduceLT, Int.reduceToNat, Int.reduceEq, Int.reduceBEq, Nat.reduceLeDiff, Nat.reduceLeDiff, UInt8.reduceToNat, h, h2, run106, intN, intE, br_true, br_false, br_eq, br_same]
theorem run43mod {a b : Int} : evW 43 [.str [109, 111, 100], .int .i64 a, .int .i64 b] [] = some (.ret (.tup [.int .i64 (intN modI true a b), .int .i64 (intE modI true a b)]), []) := by
  cases h : (b == 0) with
  | true =>
    rw [w43 rfl]
    conv => lhs; arg 2; whnf
    simp +contextual -implicitDefEqProofs (maxSteps := 10000000) only [↓wk0, ↓wk1, ↓wk2, ↓wk3, ↓wk4, ↓wk5, ↓wk6, ↓wk7, ↓wk8, ↓wk9, ↓wk10, ↓wk11, ↓wt0, ↓wt1, ↓wt2, ↓wt3, ↓lv43, ↓fz43, ↓reduceIte, wu0, wu1, Nat.reduceEqDiff, Nat.reduceLT, Nat.reduceAdd, Nat.reduceMul, Nat.reduceSub, Nat.reduceDiv, reduceCtorEq, Int.reduceAdd, Int.reduceLE, Int.reduceLT, Int.reduceToNat, Int.reduceEq, Int.reduceBEq, Nat.reduceLeDiff, Nat.reduceLeDiff, UInt8.reduceToNat, h, run106, intN, intE, br_true, br_false, modI, br_eq, br_same]
  | false =>
    have h2 := run107 (a := a) (b := b) h
    rw [w43 rfl]
    conv => lhs; arg 2; whnf
    simp +contextual -implicitDefEqProofs (maxSteps := 10000000) only [↓wk0, ↓wk1, ↓wk2, ↓wk3, ↓wk4, ↓wk5, ↓wk6, ↓wk7, ↓wk8, ↓wk9, ↓wk10, ↓wk11, ↓wt0, ↓wt1, ↓wt2, ↓wt3, ↓lv43, ↓fz43, ↓reduceIte, wu0, wu1, Nat.reduceEqDiff, Nat.reduceLT, Nat.reduceAdd, Nat.reduceMul, Nat.reduceSub, Nat.reduceDiv, reduceCtorEq, Int.reduceAdd, Int.reduceLE, Int.reduceLT, Int.reduceToNat, Int.reduceEq, Int.reduceBEq, Nat.reduceLeDiff, Nat.reduceLeDiff, UInt8.reduceToNat, h, h2, run106, intN, intE, br_true, br_false, modI, br_eq, br_same]
end Go.Proofs.YtdhcgankmhpgeaaGreat.M
