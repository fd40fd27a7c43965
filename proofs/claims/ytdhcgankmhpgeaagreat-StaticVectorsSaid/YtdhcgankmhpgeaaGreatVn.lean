import Derived.Test.YtdhcgankmhpgeaaGreatVm
set_option linter.unusedSectionVars false
namespace Go.Proofs.YtdhcgankmhpgeaaGreat.M
open Go
set_option linter.unusedSimpArgs false
set_option linter.unusedVariables false
set_option maxRecDepth 100000
set_option maxHeartbeats 4000000
attribute [local congr] br_congr ob2_congr cnd_congr gdK_congr ob_congr clK_congr finK_congr reg_congr pkK_congr kTK_congr dlT_congr gck_congr iff2_congr sel_congr dPn_congr apJ_congr nmK_congr kTo_congr fzO_congr rcK_congr lvB_congr crK_congr cdB_congr
theorem run229 {k l : Int} {xs : List Int} : evW 229 [tyA k l, bitsA xs, .int .i64 0] [] = some (.ret (.tup [vl k 0 (bitsA xs), okE]), []) := by
  rw [w229 rfl]
  conv => lhs; arg 2; whnf
  simp +contextual -implicitDefEqProofs (maxSteps := 10000000) only [↓wk0, ↓wk1, ↓wk2, ↓wk3, ↓wk4, ↓wk5, ↓wk6, ↓wk7, ↓wk8, ↓wk9, ↓wk10, ↓wk11, ↓wt0, ↓wt1, ↓wt2, ↓wt3, ↓lv229, ↓fz229, ↓reduceIte, wu0, wu1, Nat.reduceEqDiff, Nat.reduceLT, Nat.reduceAdd, Nat.reduceMul, Nat.reduceSub, Nat.reduceDiv, reduceCtorEq, Int.reduceAdd, Int.reduceLE, Int.reduceLT, Int.reduceToNat, Int.reduceEq, Int.reduceBEq, Nat.reduceLeDiff, Nat.reduceLeDiff, UInt8.reduceToNat, leave_lvB, callD_cdB, lvK_lvB, lvP_lvB, okE, br_eq, br_same]
theorem run237 {c : Bool} {xs bs : List Int} (hx : isP xs = true) (hb : isP bs = true) : evW 237 [.bool c, bitsA xs, bitsA bs] [] = some (.ret (.tup [vl 2 (br (c && (knownB xs && knownB bs)) 1 0) (.sl 1 []), okE]), []) := by
  have h1 := run232 hx
  have h2 := run232 hb
  rw [w237 rfl]
  conv => lhs; arg 2; whnf
  simp +contextual -implicitDefEqProofs (maxSteps := 10000000) only [↓wk0, ↓wk1, ↓wk2, ↓wk3, ↓wk4, ↓wk5, ↓wk6, ↓wk7, ↓wk8, ↓wk9, ↓wk10, ↓wk11, ↓wt0, ↓wt1, ↓wt2, ↓wt3, ↓lv237, ↓fz237, ↓reduceIte, wu0, wu1, Nat.reduceEqDiff, Nat.reduceLT, Nat.reduceAdd, Nat.reduceMul, Nat.reduceSub, Nat.reduceDiv, reduceCtorEq, Int.reduceAdd, Int.reduceLE, Int.reduceLT, Int.reduceToNat, Int.reduceEq, Int.reduceBEq, Nat.reduceLeDiff, Nat.reduceLeDiff, UInt8.reduceToNat, leave_lvB, callD_cdB, lvK_lvB, lvP_lvB, h1, h2, run150, okE, br_true, br_false, br_eq, br_same]
theorem run238 {xs bs : List Int} (hx : isP xs = true) (hb : isP bs = true) (hl : xs.length = bs.length) : evW 238 [bitsA xs, bitsA bs] [] = some (.ret (.bool (lessF xs bs)), []) := by
  have h1 := run39 hx hb hl
  rw [w238 rfl]
  conv => lhs; arg 2; whnf
  simp +contextual -implicitDefEqProofs (maxSteps := 10000000) only [↓wk0, ↓wk1, ↓wk2, ↓wk3, ↓wk4, ↓wk5, ↓wk6, ↓wk7, ↓wk8, ↓wk9, ↓wk10, ↓wk11, ↓wt0, ↓wt1, ↓wt2, ↓wt3, ↓lv238, ↓fz238, ↓reduceIte, wu0, wu1, Nat.reduceEqDiff, Nat.reduceLT, Nat.reduceAdd, Nat.reduceMul, Nat.reduceSub, Nat.reduceDiv, reduceCtorEq, Int.reduceAdd, Int.reduceLE, Int.reduceLT, Int.reduceToNat, Int.reduceEq, Int.reduceBEq, Nat.reduceLeDiff, Nat.reduceLeDiff, UInt8.reduceToNat, leave_lvB, callD_cdB, lvK_lvB, lvP_lvB, h1, okE, br_eq, br_same]
theorem run151add {xs bs : List Int} (hx : isP xs = true) (hb : isP bs = true) (hl : xs.length = bs.length) {l : Int} : evW 151 [.str [43], vl 4 0 (bitsA xs), vl 4 0 (bitsA bs), tyA 4 l] [] = some (.ret (.tup [vl 4 0 (bitsA (cmpF (fun x y => IntKind.u64.wrap (x + y)) xs bs)), okE]), []) := by
  have h1 := run35 hx hb hl
  rw [w151 rfl]
  conv => lhs; arg 2; whnf
  simp +contextual -implicitDefEqProofs (maxSteps := 10000000) only [↓wk0, ↓wk1, ↓wk2, ↓wk3, ↓wk4, ↓wk5, ↓wk6, ↓wk7, ↓wk8, ↓wk9, ↓wk10, ↓wk11, ↓wt0, ↓wt1, ↓wt2, ↓wt3, ↓lv151, ↓fz151, ↓tbr151, ↓reduceIte, wu0, wu1, Nat.reduceEqDiff, Nat.reduceLT, Nat.reduceAdd, Nat.reduceMul, Nat.reduceSub, Nat.reduceDiv, reduceCtorEq, Int.reduceAdd, Int.reduceLE, Int.reduceLT, Int.reduceToNat, Int.reduceEq, Int.reduceBEq, Nat.reduceLeDiff, Nat.reduceLeDiff, UInt8.reduceToNat, leave_lvB, callD_cdB, lvK_lvB, lvP_lvB, h1, run229, okE, br_eq, br_same]
theorem run151sub {xs bs : List Int} (hx : isP xs = true) (hb : isP bs = true) (hl : xs.length = bs.length) {l : Int} : evW 151 [.str [45], vl 4 0 (bitsA xs), vl 4 0 (bitsA bs), tyA 4 l] [] = some (.ret (.tup [vl 4 0 (bitsA (cmpF (fun x y => IntKind.u64.wrap (x - y)) xs bs)), okE]), []) := by
  have h1 := run36 hx hb hl
  rw [w151 rfl]
  conv => lhs; arg 2; whnf
  simp +contextual -implicitDefEqProofs (maxSteps := 10000000) only [↓wk0, ↓wk1, ↓wk2, ↓wk3, ↓wk4, ↓wk5, ↓wk6, ↓wk7, ↓wk8, ↓wk9, ↓wk10, ↓wk11, ↓wt0, ↓wt1, ↓wt2, ↓wt3, ↓lv151, ↓fz151, ↓tbr151, ↓reduceIte, wu0, wu1, Nat.reduceEqDiff, Nat.reduceLT, Nat.reduceAdd, Nat.reduceMul, Nat.reduceSub, Nat.reduceDiv, reduceCtorEq, Int.reduceAdd, Int.reduceLE, Int.reduceLT, Int.reduceToNat, Int.reduceEq, Int.reduceBEq, Nat.reduceLeDiff, Nat.reduceLeDiff, UInt8.reduceToNat, leave_lvB, callD_cdB, lvK_lvB, lvP_lvB, h1, run229, okE, br_eq, br_same]
theorem run151mul {xs bs : List Int} (hx : isP xs = true) (hb : isP bs = true) (hl : xs.length = bs.length) {l : Int} : evW 151 [.str [42], vl 4 0 (bitsA xs), vl 4 0 (bitsA bs), tyA 4 l] [] = some (.ret (.tup [vl 4 0 (bitsA (cmpF (fun x y => IntKind.u64.wrap (x * y)) xs bs)), okE]), []) := by
  have h1 := run37 hx hb hl
  rw [w151 rfl]
  conv => lhs; arg 2; whnf
  simp +contextual -implicitDefEqProofs (maxSteps := 10000000) only [↓wk0, ↓wk1, ↓wk2, ↓wk3, ↓wk4, ↓wk5, ↓wk6, ↓wk7, ↓wk8, ↓wk9, ↓wk10, ↓wk11, ↓wt0, ↓wt1, ↓wt2, ↓wt3, ↓lv151, ↓fz151, ↓tbr151, ↓reduceIte, wu0, wu1, Nat.reduceEqDiff, Nat.reduceLT, Nat.reduceAdd, Nat.reduceMul, Nat.reduceSub, Nat.reduceDiv, reduceCtorEq, Int.reduceAdd, Int.reduceLE, Int.reduceLT, Int.reduceToNat, Int.reduceEq, Int.reduceBEq, Nat.reduceLeDiff, Nat.reduceLeDiff, UInt8.reduceToNat, leave_lvB, callD_cdB, lvK_lvB, lvP_lvB, h1, run229, okE, br_eq, br_same]
theorem run151less {xs bs : List Int} (hx : isP xs = true) (hb : isP bs = true) (hl : xs.length = bs.length) {l : Int} : evW 151 [.str [60], vl 4 0 (bitsA xs), vl 4 0 (bitsA bs), tyA 4 l] [] = some (.ret (.tup [vl 2 (br (lessF xs bs && (knownB xs && knownB bs)) 1 0) (.sl 1 []), okE]), []) := by
  have h1 := run238 hx hb hl
  have h2 := run237 (c := lessF xs bs) hx hb
  rw [w151 rfl]
  conv => lhs; arg 2; whnf
  simp +contextual -implicitDefEqProofs (maxSteps := 10000000) only [↓wk0, ↓wk1, ↓wk2, ↓wk3, ↓wk4, ↓wk5, ↓wk6, ↓wk7, ↓wk8, ↓wk9, ↓wk10, ↓wk11, ↓wt0, ↓wt1, ↓wt2, ↓wt3, ↓lv151, ↓fz151, ↓tbr151, ↓reduceIte, wu0, wu1, Nat.reduceEqDiff, Nat.reduceLT, Nat.reduceAdd, Nat.reduceMul, Nat.reduceSub, Nat.reduceDiv, reduceCtorEq, Int.reduceAdd, Int.reduceLE, Int.reduceLT, Int.reduceToNat, Int.reduceEq, Int.reduceBEq, Nat.reduceLeDiff, Nat.reduceLeDiff, UInt8.reduceToNat, leave_lvB, callD_cdB, lvK_lvB, lvP_lvB, h1, h2, okE, br_eq, br_same]
theorem run148add {a b : Int} : evW 148 [.str [43], .int .i64 a, .int .i64 b] [] = br (intE addI false a b == 0) (some (.ret (.tup [vl 3 (intN addI false a b) (.sl 1 []), okE]), [])) (some (.ret (.tup [vl 0 0 (.sl 1 []), .int .i64 (intE addI false a b)]), [])) := by
  have h1 := run43add (a := a) (b := b)
  rw [w148 rfl]
  conv => lhs; arg 2; whnf
  simp +contextual -implicitDefEqProofs (maxSteps := 10000000) only [↓wk0, ↓wk1, ↓wk2, ↓wk3, ↓wk4, ↓wk5, ↓wk6, ↓wk7, ↓wk8, ↓wk9, ↓wk10, ↓wk11, ↓wt0, ↓wt1, ↓wt2, ↓wt3, ↓lv148, ↓fz148, ↓reduceIte, wu0, wu1, Nat.reduceEqDiff, Nat.reduceLT, Nat.reduceAdd, Nat.reduceMul, Nat.reduceSub, Nat.reduceDiv, reduceCtorEq, Int.reduceAdd, Int.reduceLE, Int.reduceLT, Int.reduceToNat, Int.reduceEq, Int.reduceBEq, Nat.reduceLeDiff, Nat.reduceLeDiff, UInt8.reduceToNat, leave_lvB, callD_cdB, lvK_lvB, lvP_lvB, h1, run231, okE, br_true, br_false, br_eq, br_same]
theorem run148sub {a b : Int} : evW 148 [.str [45], .int .i64 a, .int .i64 b] [] = br (intE subI false a b == 0) (some (.ret (.tup [vl 3 (intN subI false a b) (.sl 1 []), okE]), [])) (some (.ret (.tup [vl 0 0 (.sl 1 []), .int .i64 (intE subI false a b)]), [])) := by
  have h1 := run43sub (a := a) (b := b)
  rw [w148 rfl]
  conv => lhs; arg 2; whnf
  simp +contextual -implicitDefEqProofs (maxSteps := 10000000) only [↓wk0, ↓wk1, ↓wk2, ↓wk3, ↓wk4, ↓wk5, ↓wk6, ↓wk7, ↓wk8, ↓wk9, ↓wk10, ↓wk11, ↓wt0, ↓wt1, ↓wt2, ↓wt3, ↓lv148, ↓fz148, ↓reduceIte, wu0, wu1, Nat.reduceEqDiff, Nat.reduceLT, Nat.reduceAdd, Nat.reduceMul, Nat.reduceSub, Nat.reduceDiv, reduceCtorEq, Int.reduceAdd, Int.reduceLE, Int.reduceLT, Int.reduceToNat, Int.reduceEq, Int.reduceBEq, Nat.reduceLeDiff, Nat.reduceLeDiff, UInt8.reduceToNat, leave_lvB, callD_cdB, lvK_lvB, lvP_lvB, h1, run231, okE, br_true, br_false, br_eq, br_same]
theorem run148mul {a b : Int} : evW 148 [.str [42], .int .i64 a, .int .i64 b] [] = br (intE mulI false a b == 0) (some (.ret (.tup [vl 3 (intN mulI false a b) (.sl 1 []), okE]), [])) (some (.ret (.tup [vl 0 0 (.sl 1 []), .int .i64 (intE mulI false a b)]), [])) := by
  have h1 := run43mul (a := a) (b := b)
  rw [w148 rfl]
  conv => lhs; arg 2; whnf
  simp +contextual -implicitDefEqProofs (maxSteps := 10000000) only [↓wk0, ↓wk1, ↓wk2, ↓wk3, ↓wk4, ↓wk5, ↓wk6, ↓wk7, ↓wk8, ↓wk9, ↓wk10, ↓wk11, ↓wt0, ↓wt1, ↓wt2, ↓wt3, ↓lv148, ↓fz148, ↓reduceIte, wu0, wu1, Nat.reduceEqDiff, Nat.reduceLT, Nat.reduceAdd, Nat.reduceMul, Nat.reduceSub, Nat.reduceDiv, reduceCtorEq, Int.reduceAdd, Int.reduceLE, Int.reduceLT, Int.reduceToNat, Int.reduceEq, Int.reduceBEq, Nat.reduceLeDiff, Nat.reduceLeDiff, UInt8.reduceToNat, leave_lvB, callD_cdB, lvK_lvB, lvP_lvB, h1, run231, okE, br_true, br_false, br_eq, br_same]
theorem run148div {a b : Int} : evW 148 [.str [47], .int .i64 a, .int .i64 b] [] = br (intE floorF true a b == 0) (some (.ret (.tup [vl 3 (intN floorF true a b) (.sl 1 []), okE]), [])) (some (.ret (.tup [vl 0 0 (.sl 1 []), .int .i64 (intE floorF true a b)]), [])) := by
  have h1 := run43div (a := a) (b := b)
  rw [w148 rfl]
  conv => lhs; arg 2; whnf
  simp +contextual -implicitDefEqProofs (maxSteps := 10000000) only [↓wk0, ↓wk1, ↓wk2, ↓wk3, ↓wk4, ↓wk5, ↓wk6, ↓wk7, ↓wk8, ↓wk9, ↓wk10, ↓wk11, ↓wt0, ↓wt1, ↓wt2, ↓wt3, ↓lv148, ↓fz148, ↓reduceIte, wu0, wu1, Nat.reduceEqDiff, Nat.reduceLT, Nat.reduceAdd, Nat.reduceMul, Nat.reduceSub, Nat.reduceDiv, reduceCtorEq, Int.reduceAdd, Int.reduceLE, Int.reduceLT, Int.reduceToNat, Int.reduceEq, Int.reduceBEq, Nat.reduceLeDiff, Nat.reduceLeDiff, UInt8.reduceToNat, leave_lvB, callD_cdB, lvK_lvB, lvP_lvB, h1, run231, okE, br_true, br_false, br_eq, br_same]
theorem run148mod {a b : Int} : evW 148 [.str [109, 111, 100], .int .i64 a, .int .i64 b] [] = br (intE modI true a b == 0) (some (.ret (.tup [vl 3 (intN modI true a b) (.sl 1 []), okE]), [])) (some (.ret (.tup [vl 0 0 (.sl 1 []), .int .i64 (intE modI true a b)]), [])) := by
  have h1 := run43mod (a := a) (b := b)
  rw [w148 rfl]
  conv => lhs; arg 2; whnf
  simp +contextual -implicitDefEqProofs (maxSteps := 10000000) only [↓wk0, ↓wk1, ↓wk2, ↓wk3, ↓wk4, ↓wk5, ↓wk6, ↓wk7, ↓wk8, ↓wk9, ↓wk10, ↓wk11, ↓wt0, ↓wt1, ↓wt2, ↓wt3, ↓lv148, ↓fz148, ↓reduceIte, wu0, wu1, Nat.reduceEqDiff, Nat.reduceLT, Nat.reduceAdd, Nat.reduceMul, Nat.reduceSub, Nat.reduceDiv, reduceCtorEq, Int.reduceAdd, Int.reduceLE, Int.reduceLT, Int.reduceToNat, Int.reduceEq, Int.reduceBEq, Nat.reduceLeDiff, Nat.reduceLeDiff, UInt8.reduceToNat, leave_lvB, callD_cdB, lvK_lvB, lvP_lvB, h1, run231, okE, br_true, br_false, br_eq, br_same]
end Go.Proofs.YtdhcgankmhpgeaaGreat.M
namespace Go.Proofs.YtdhcgankmhpgeaaGreat.M
open Go
set_option linter.unusedSimpArgs false
set_option linter.unusedVariables false
set_option maxRecDepth 100000
set_option maxHeartbeats 4000000
attribute [local congr] br_congr ob2_congr cnd_congr gdK_congr ob_congr clK_congr finK_congr reg_congr pkK_congr kTK_congr dlT_congr gck_congr iff2_congr sel_congr dPn_congr apJ_congr nmK_congr kTo_congr fzO_congr rcK_congr lvB_congr crK_congr cdB_congr
theorem run115n : evW 115 [.sl 1 []] [] = some (.ret (.sl 1 []), []) := (evW_kn (q := (.ret (.sl 1 []), [])) (by kernel_rfl)).trans (by kernel_rfl)
theorem run116n : evW 116 [.sl 4 []] [] = some (.ret (.sl 4 []), []) := (evW_kn (q := (.ret (.sl 4 []), [])) (by kernel_rfl)).trans (by kernel_rfl)
theorem run152n : evW 152 [.sl 1 []] [] = some (.ret (.sl 1 []), []) := (evW_kn (q := (.ret (.sl 1 []), [])) (by kernel_rfl)).trans (by kernel_rfl)
theorem run153n : evW 153 [.sl 5 []] [] = some (.ret (.sl 5 []), []) := (evW_kn (q := (.ret (.sl 5 []), [])) (by kernel_rfl)).trans (by kernel_rfl)
theorem run115c {x : Int} {xs : List Int} (h : xs.length ≤ 1000) : evW 115 [bitsA (x :: xs)] [] = some (.ret (.row 0 0 (xs.length + 1)), [.arr 162 1 ((x :: xs).map fun b => [.int .u8 b])]) := by
  have hm : decide (xs.length + 1 ≤ most) = true := by simp [most]; omega
  rw [w115 rfl rfl]
  conv => lhs; arg 2; whnf
  simp +contextual -implicitDefEqProofs (maxSteps := 10000000) only [↓wk0, ↓wk1, ↓wk2, ↓wk3, ↓wk4, ↓wk5, ↓wk6, ↓wk7, ↓wk8, ↓wk9, ↓wk10, ↓wk11, ↓wt0, ↓wt1, ↓wt2, ↓wt3, ↓lv115, ↓fz115, ↓reduceIte, wu0, wu1, Nat.reduceEqDiff, Nat.reduceLT, Nat.reduceAdd, Nat.reduceMul, Nat.reduceSub, Nat.reduceDiv, reduceCtorEq, Int.reduceAdd, Int.reduceLE, Int.reduceLT, Int.reduceToNat, Int.reduceEq, Int.reduceBEq, Nat.reduceLeDiff, Nat.reduceLeDiff, UInt8.reduceToNat, leave_lvB, callD_cdB, lvK_lvB, lvP_lvB, bitsA, List.map_cons, hm, br_eq, br_same]
theorem run76 {k l : Int} : evW 76 [tyA k l] [] = some (.ret (tyA k l), []) := by
  rw [w76 rfl]
  conv => lhs; arg 2; whnf
  simp +contextual -implicitDefEqProofs (maxSteps := 10000000) only [↓wk0, ↓wk1, ↓wk2, ↓wk3, ↓wk4, ↓wk5, ↓wk6, ↓wk7, ↓wk8, ↓wk9, ↓wk10, ↓wk11, ↓wt0, ↓wt1, ↓wt2, ↓wt3, ↓lv76, ↓fz76, ↓tbr76, ↓reduceIte, wu0, wu1, Nat.reduceEqDiff, Nat.reduceLT, Nat.reduceAdd, Nat.reduceMul, Nat.reduceSub, Nat.reduceDiv, reduceCtorEq, Int.reduceAdd, Int.reduceLE, Int.reduceLT, Int.reduceToNat, Int.reduceEq, Int.reduceBEq, Nat.reduceLeDiff, Nat.reduceLeDiff, UInt8.reduceToNat, leave_lvB, callD_cdB, lvK_lvB, lvP_lvB, run152n, run153n, br_eq, br_same]
  refine (lpX_code (c' := lp Tryz.f76 0) (by kernel_rfl)).trans ?_
  rw [lq76_0]
  try simp +contextual -implicitDefEqProofs (maxSteps := 10000000) only [↓wk0, ↓wk1, ↓wk2, ↓wk3, ↓wk4, ↓wk5, ↓wk6, ↓wk7, ↓wk8, ↓wk9, ↓wk10, ↓wk11, ↓wt0, ↓wt1, ↓wt2, ↓wt3, ↓lv76, ↓fz76, ↓tbr76, ↓reduceIte, wu0, wu1, Nat.reduceEqDiff, Nat.reduceLT, Nat.reduceAdd, Nat.reduceMul, Nat.reduceSub, Nat.reduceDiv, reduceCtorEq, Int.reduceAdd, Int.reduceLE, Int.reduceLT, Int.reduceToNat, Int.reduceEq, Int.reduceBEq, Nat.reduceLeDiff, Nat.reduceLeDiff, UInt8.reduceToNat, leave_lvB, callD_cdB, lvK_lvB, lvP_lvB, run152n, run153n, br_eq, br_same]
  unfold lpN
  conv => lhs; arg 2; whnf
  simp +contextual -implicitDefEqProofs (maxSteps := 10000000) only [↓wk0, ↓wk1, ↓wk2, ↓wk3, ↓wk4, ↓wk5, ↓wk6, ↓wk7, ↓wk8, ↓wk9, ↓wk10, ↓wk11, ↓wt0, ↓wt1, ↓wt2, ↓wt3, ↓lv76, ↓fz76, ↓tbr76, ↓reduceIte, wu0, wu1, Nat.reduceEqDiff, Nat.reduceLT, Nat.reduceAdd, Nat.reduceMul, Nat.reduceSub, Nat.reduceDiv, reduceCtorEq, Int.reduceAdd, Int.reduceLE, Int.reduceLT, Int.reduceToNat, Int.reduceEq, Int.reduceBEq, Nat.reduceLeDiff, Nat.reduceLeDiff, UInt8.reduceToNat, leave_lvB, callD_cdB, lvK_lvB, lvP_lvB, run152n, run153n, br_eq, br_same]
theorem run53n {k n : Int} : evW 53 [vl k n (bitsA [])] [] = some (.ret (vl k n (bitsA [])), []) := by
  rw [w53 rfl]
  conv => lhs; arg 2; whnf
  simp +contextual -implicitDefEqProofs (maxSteps := 10000000) only [↓wk0, ↓wk1, ↓wk2, ↓wk3, ↓wk4, ↓wk5, ↓wk6, ↓wk7, ↓wk8, ↓wk9, ↓wk10, ↓wk11, ↓wt0, ↓wt1, ↓wt2, ↓wt3, ↓lv53, ↓fz53, ↓tbr53, ↓reduceIte, wu0, wu1, Nat.reduceEqDiff, Nat.reduceLT, Nat.reduceAdd, Nat.reduceMul, Nat.reduceSub, Nat.reduceDiv, reduceCtorEq, Int.reduceAdd, Int.reduceLE, Int.reduceLT, Int.reduceToNat, Int.reduceEq, Int.reduceBEq, Nat.reduceLeDiff, Nat.reduceLeDiff, UInt8.reduceToNat, leave_lvB, callD_cdB, lvK_lvB, lvP_lvB, run115n, run116n, bitsA, List.map_nil, br_eq, br_same]
  refine (lpX_code (c' := lp Tryz.f53 0) (by kernel_rfl)).trans ?_
  rw [lq53_0]
  try simp +contextual -implicitDefEqProofs (maxSteps := 10000000) only [↓wk0, ↓wk1, ↓wk2, ↓wk3, ↓wk4, ↓wk5, ↓wk6, ↓wk7, ↓wk8, ↓wk9, ↓wk10, ↓wk11, ↓wt0, ↓wt1, ↓wt2, ↓wt3, ↓lv53, ↓fz53, ↓tbr53, ↓reduceIte, wu0, wu1, Nat.reduceEqDiff, Nat.reduceLT, Nat.reduceAdd, Nat.reduceMul, Nat.reduceSub, Nat.reduceDiv, reduceCtorEq, Int.reduceAdd, Int.reduceLE, Int.reduceLT, Int.reduceToNat, Int.reduceEq, Int.reduceBEq, Nat.reduceLeDiff, Nat.reduceLeDiff, UInt8.reduceToNat, leave_lvB, callD_cdB, lvK_lvB, lvP_lvB, run115n, run116n, bitsA, List.map_nil, br_eq, br_same]
  unfold lpN
  conv => lhs; arg 2; whnf
  simp +contextual -implicitDefEqProofs (maxSteps := 10000000) only [↓wk0, ↓wk1, ↓wk2, ↓wk3, ↓wk4, ↓wk5, ↓wk6, ↓wk7, ↓wk8, ↓wk9, ↓wk10, ↓wk11, ↓wt0, ↓wt1, ↓wt2, ↓wt3, ↓lv53, ↓fz53, ↓tbr53, ↓reduceIte, wu0, wu1, Nat.reduceEqDiff, Nat.reduceLT, Nat.reduceAdd, Nat.reduceMul, Nat.reduceSub, Nat.reduceDiv, reduceCtorEq, Int.reduceAdd, Int.reduceLE, Int.reduceLT, Int.reduceToNat, Int.reduceEq, Int.reduceBEq, Nat.reduceLeDiff, Nat.reduceLeDiff, UInt8.reduceToNat, leave_lvB, callD_cdB, lvK_lvB, lvP_lvB, run115n, run116n, bitsA, List.map_nil, br_eq, br_same]
theorem run53c {k n x : Int} {xs : List Int} (h : xs.length ≤ 1000) : evW 53 [vl k n (bitsA (x :: xs))] [] = some (.ret (vl k n (bitsA (x :: xs))), []) := by
  have h1 := run115c (x := x) (xs := xs) h
  have hd : decide (xs.length + 1 ≤ ((x :: xs).map fun b => [AV.int .u8 b]).length) = true := by simp
  have htk : List.take (xs.length + 1) ((x :: xs).map fun b => [AV.int .u8 b]) = (x :: xs).map fun b => [AV.int .u8 b] := List.take_of_length_le (by simp)
  have h2 : AV.sl 1 ((x :: xs).map fun b => [AV.int .u8 b]) = bitsA (x :: xs) := rfl
  generalize hes : ((x :: xs).map fun b => [AV.int .u8 b]) = es at h1 hd htk h2
  have hk : keysE es = [] := by rw [← hes]; exact kE_u8
  rw [w53 rfl]
  conv => lhs; arg 2; whnf
  simp +contextual -implicitDefEqProofs (maxSteps := 10000000) only [↓wk0, ↓wk1, ↓wk2, ↓wk3, ↓wk4, ↓wk5, ↓wk6, ↓wk7, ↓wk8, ↓wk9, ↓wk10, ↓wk11, ↓wt0, ↓wt1, ↓wt2, ↓wt3, ↓lv53, ↓fz53, ↓tbr53, ↓reduceIte, wu0, wu1, Nat.reduceEqDiff, Nat.reduceLT, Nat.reduceAdd, Nat.reduceMul, Nat.reduceSub, Nat.reduceDiv, reduceCtorEq, Int.reduceAdd, Int.reduceLE, Int.reduceLT, Int.reduceToNat, Int.reduceEq, Int.reduceBEq, Nat.reduceLeDiff, Nat.reduceLeDiff, UInt8.reduceToNat, leave_lvB, callD_cdB, lvK_lvB, lvP_lvB, h1, run116n, hk, br_eq, br_same]
  refine (lpX_code (c' := lp Tryz.f53 0) (by kernel_rfl)).trans ?_
  rw [lq53_0]
  try simp +contextual -implicitDefEqProofs (maxSteps := 10000000) only [↓wk0, ↓wk1, ↓wk2, ↓wk3, ↓wk4, ↓wk5, ↓wk6, ↓wk7, ↓wk8, ↓wk9, ↓wk10, ↓wk11, ↓wt0, ↓wt1, ↓wt2, ↓wt3, ↓lv53, ↓fz53, ↓tbr53, ↓reduceIte, wu0, wu1, Nat.reduceEqDiff, Nat.reduceLT, Nat.reduceAdd, Nat.reduceMul, Nat.reduceSub, Nat.reduceDiv, reduceCtorEq, Int.reduceAdd, Int.reduceLE, Int.reduceLT, Int.reduceToNat, Int.reduceEq, Int.reduceBEq, Nat.reduceLeDiff, Nat.reduceLeDiff, UInt8.reduceToNat, leave_lvB, callD_cdB, lvK_lvB, lvP_lvB, h1, run116n, hk, br_eq, br_same]
  unfold lpN
  conv => lhs; arg 2; whnf
  simp +contextual -implicitDefEqProofs (maxSteps := 10000000) only [↓wk0, ↓wk1, ↓wk2, ↓wk3, ↓wk4, ↓wk5, ↓wk6, ↓wk7, ↓wk8, ↓wk9, ↓wk10, ↓wk11, ↓wt0, ↓wt1, ↓wt2, ↓wt3, ↓lv53, ↓fz53, ↓tbr53, ↓reduceIte, wu0, wu1, Nat.reduceEqDiff, Nat.reduceLT, Nat.reduceAdd, Nat.reduceMul, Nat.reduceSub, Nat.reduceDiv, reduceCtorEq, Int.reduceAdd, Int.reduceLE, Int.reduceLT, Int.reduceToNat, Int.reduceEq, Int.reduceBEq, Nat.reduceLeDiff, Nat.reduceLeDiff, UInt8.reduceToNat, leave_lvB, callD_cdB, lvK_lvB, lvP_lvB, h1, run116n, hd, htk, hk, h2, br_eq, br_same]
abbrev tc (k l : Int) : List AV := [.int .i64 k, .int .i64 l, .str [], .sl 1 [], .sl 5 []]
abbrev vc (k n : Int) (b : AV) : List AV := [.int .i64 k, .int .i64 n, b, .sl 4 []]
end Go.Proofs.YtdhcgankmhpgeaaGreat.M
namespace Go.Proofs.YtdhcgankmhpgeaaGreat.M
open Go
set_option linter.unusedSimpArgs false
set_option linter.unusedVariables false
set_option maxRecDepth 100000
set_option maxHeartbeats 4000000
attribute [local congr] br_congr ob2_congr cnd_congr gdK_congr ob_congr clK_congr finK_congr reg_congr pkK_congr kTK_congr dlT_congr gck_congr iff2_congr sel_congr dPn_congr apJ_congr nmK_congr kTo_congr fzO_congr rcK_congr lvB_congr crK_congr cdB_congr
theorem run72add : evW 72 [.str [43]] [] = some (.ret (.bool true), []) := ev_le 20 72 _ _ _ (by kernel_rfl)
theorem run73add : evW 73 [.str [43]] [] = some (.ret (.bool false), []) := ev_le 20 73 _ _ _ (by kernel_rfl)
theorem run72sub : evW 72 [.str [45]] [] = some (.ret (.bool true), []) := ev_le 20 72 _ _ _ (by kernel_rfl)
theorem run73sub : evW 73 [.str [45]] [] = some (.ret (.bool false), []) := ev_le 20 73 _ _ _ (by kernel_rfl)
theorem run72mul : evW 72 [.str [42]] [] = some (.ret (.bool true), []) := ev_le 20 72 _ _ _ (by kernel_rfl)
theorem run73mul : evW 73 [.str [42]] [] = some (.ret (.bool false), []) := ev_le 20 73 _ _ _ (by kernel_rfl)
theorem run72less : evW 72 [.str [60]] [] = some (.ret (.bool true), []) := ev_le 20 72 _ _ _ (by kernel_rfl)
theorem run73less : evW 73 [.str [60]] [] = some (.ret (.bool false), []) := ev_le 20 73 _ _ _ (by kernel_rfl)
theorem run72eq : evW 72 [.str [61]] [] = some (.ret (.bool true), []) := ev_le 20 72 _ _ _ (by kernel_rfl)
theorem run73eq : evW 73 [.str [61]] [] = some (.ret (.bool false), []) := ev_le 20 73 _ _ _ (by kernel_rfl)
theorem run72ne : evW 72 [.str [47, 61]] [] = some (.ret (.bool true), []) := ev_le 20 72 _ _ _ (by kernel_rfl)
theorem run73ne : evW 73 [.str [47, 61]] [] = some (.ret (.bool false), []) := ev_le 20 73 _ _ _ (by kernel_rfl)
theorem run72div : evW 72 [.str [47]] [] = some (.ret (.bool true), []) := ev_le 20 72 _ _ _ (by kernel_rfl)
theorem run73div : evW 73 [.str [47]] [] = some (.ret (.bool false), []) := ev_le 20 73 _ _ _ (by kernel_rfl)
theorem run72mod : evW 72 [.str [109, 111, 100]] [] = some (.ret (.bool true), []) := ev_le 20 72 _ _ _ (by kernel_rfl)
theorem run73mod : evW 73 [.str [109, 111, 100]] [] = some (.ret (.bool false), []) := ev_le 20 73 _ _ _ (by kernel_rfl)
theorem run294e : evW 294 [.sl 1 [], .sl 1 []] [] = some (.ret (.bool true), []) := ev_le 20 294 _ _ _ (by kernel_rfl)
theorem run275e : evW 275 [.sl 5 [], .sl 5 [], .fn 227 []] [] = some (.ret (.bool true), []) := ev_le 20 275 _ _ _ (by kernel_rfl)
theorem run142i : evW 142 [tyA 3 0, tyA 3 0] [] = some (.ret (.bool true), []) := ev_le 20 142 _ _ _ (by kernel_rfl)
theorem run227 {k l : Int} : evW 227 [tyA k l, tyA k l] [] = some (.ret (.bool true), []) := by
  rw [w227 rfl]
  conv => lhs; arg 2; whnf
  simp +contextual -implicitDefEqProofs (maxSteps := 10000000) only [↓wk0, ↓wk1, ↓wk2, ↓wk3, ↓wk4, ↓wk5, ↓wk6, ↓wk7, ↓wk8, ↓wk9, ↓wk10, ↓wk11, ↓wt0, ↓wt1, ↓wt2, ↓wt3, ↓lv227, ↓fz227, ↓reduceIte, wu0, wu1, Nat.reduceEqDiff, Nat.reduceLT, Nat.reduceAdd, Nat.reduceMul, Nat.reduceSub, Nat.reduceDiv, reduceCtorEq, Int.reduceAdd, Int.reduceLE, Int.reduceLT, Int.reduceToNat, Int.reduceEq, Int.reduceBEq, Nat.reduceLeDiff, Nat.reduceLeDiff, UInt8.reduceToNat, leave_lvB, callD_cdB, lvK_lvB, lvP_lvB, run294e, run275e, br_eq, br_same]
theorem run142 {l : Int} (h1 : 1 ≤ l) (h2 : l ≤ 64) : evW 142 [tyA 4 l, tyA 4 l] [] = some (.ret (.bool true), []) := by
  have l1 : decide (1 ≤ l) = true := by simp; omega
  have l2 : decide (l ≤ 64) = true := by simp; omega
  rw [w142 rfl]
  conv => lhs; arg 2; whnf
  simp +contextual -implicitDefEqProofs (maxSteps := 10000000) only [↓wk0, ↓wk1, ↓wk2, ↓wk3, ↓wk4, ↓wk5, ↓wk6, ↓wk7, ↓wk8, ↓wk9, ↓wk10, ↓wk11, ↓wt0, ↓wt1, ↓wt2, ↓wt3, ↓lv142, ↓fz142, ↓reduceIte, wu0, wu1, Nat.reduceEqDiff, Nat.reduceLT, Nat.reduceAdd, Nat.reduceMul, Nat.reduceSub, Nat.reduceDiv, reduceCtorEq, Int.reduceAdd, Int.reduceLE, Int.reduceLT, Int.reduceToNat, Int.reduceEq, Int.reduceBEq, Nat.reduceLeDiff, Nat.reduceLeDiff, UInt8.reduceToNat, leave_lvB, callD_cdB, lvK_lvB, lvP_lvB, run94, run227, l1, l2, br_eq, br_same]
theorem run74add {l n : Int} (h1 : 1 ≤ l) (h2 : l ≤ 64) : evW 74 [.str [43], .row 0 0 2, .int .i64 n] [.arr 38 5 [tc 4 l, tc 4 l]] = some (.ret (.tup [tyA 4 l, .bool true]), [.arr 38 5 [tc 4 l, tc 4 l]]) := by
  have h3 := run142 h1 h2
  rw [w74 rfl]
  conv => lhs; arg 2; whnf
  simp +contextual -implicitDefEqProofs (maxSteps := 10000000) only [↓wk0, ↓wk1, ↓wk2, ↓wk3, ↓wk4, ↓wk5, ↓wk6, ↓wk7, ↓wk8, ↓wk9, ↓wk10, ↓wk11, ↓wt0, ↓wt1, ↓wt2, ↓wt3, ↓lv74, ↓fz74, ↓tbr74, ↓reduceIte, wu0, wu1, Nat.reduceEqDiff, Nat.reduceLT, Nat.reduceAdd, Nat.reduceMul, Nat.reduceSub, Nat.reduceDiv, reduceCtorEq, Int.reduceAdd, Int.reduceLE, Int.reduceLT, Int.reduceToNat, Int.reduceEq, Int.reduceBEq, Nat.reduceLeDiff, Nat.reduceLeDiff, UInt8.reduceToNat, leave_lvB, callD_cdB, lvK_lvB, lvP_lvB, h3, run144, br_eq, br_same]
theorem run74sub {l n : Int} (h1 : 1 ≤ l) (h2 : l ≤ 64) : evW 74 [.str [45], .row 0 0 2, .int .i64 n] [.arr 38 5 [tc 4 l, tc 4 l]] = some (.ret (.tup [tyA 4 l, .bool true]), [.arr 38 5 [tc 4 l, tc 4 l]]) := by
  have h3 := run142 h1 h2
  rw [w74 rfl]
  conv => lhs; arg 2; whnf
  simp +contextual -implicitDefEqProofs (maxSteps := 10000000) only [↓wk0, ↓wk1, ↓wk2, ↓wk3, ↓wk4, ↓wk5, ↓wk6, ↓wk7, ↓wk8, ↓wk9, ↓wk10, ↓wk11, ↓wt0, ↓wt1, ↓wt2, ↓wt3, ↓lv74, ↓fz74, ↓tbr74, ↓reduceIte, wu0, wu1, Nat.reduceEqDiff, Nat.reduceLT, Nat.reduceAdd, Nat.reduceMul, Nat.reduceSub, Nat.reduceDiv, reduceCtorEq, Int.reduceAdd, Int.reduceLE, Int.reduceLT, Int.reduceToNat, Int.reduceEq, Int.reduceBEq, Nat.reduceLeDiff, Nat.reduceLeDiff, UInt8.reduceToNat, leave_lvB, callD_cdB, lvK_lvB, lvP_lvB, h3, run144, br_eq, br_same]
theorem run74mul {l n : Int} (h1 : 1 ≤ l) (h2 : l ≤ 64) : evW 74 [.str [42], .row 0 0 2, .int .i64 n] [.arr 38 5 [tc 4 l, tc 4 l]] = some (.ret (.tup [tyA 4 l, .bool true]), [.arr 38 5 [tc 4 l, tc 4 l]]) := by
  have h3 := run142 h1 h2
  rw [w74 rfl]
  conv => lhs; arg 2; whnf
  simp +contextual -implicitDefEqProofs (maxSteps := 10000000) only [↓wk0, ↓wk1, ↓wk2, ↓wk3, ↓wk4, ↓wk5, ↓wk6, ↓wk7, ↓wk8, ↓wk9, ↓wk10, ↓wk11, ↓wt0, ↓wt1, ↓wt2, ↓wt3, ↓lv74, ↓fz74, ↓tbr74, ↓reduceIte, wu0, wu1, Nat.reduceEqDiff, Nat.reduceLT, Nat.reduceAdd, Nat.reduceMul, Nat.reduceSub, Nat.reduceDiv, reduceCtorEq, Int.reduceAdd, Int.reduceLE, Int.reduceLT, Int.reduceToNat, Int.reduceEq, Int.reduceBEq, Nat.reduceLeDiff, Nat.reduceLeDiff, UInt8.reduceToNat, leave_lvB, callD_cdB, lvK_lvB, lvP_lvB, h3, run144, br_eq, br_same]
theorem run74less {l n : Int} (h1 : 1 ≤ l) (h2 : l ≤ 64) : evW 74 [.str [60], .row 0 0 2, .int .i64 n] [.arr 38 5 [tc 4 l, tc 4 l]] = some (.ret (.tup [tyA 2 0, .bool true]), [.arr 38 5 [tc 4 l, tc 4 l]]) := by
  have h3 := run142 h1 h2
  rw [w74 rfl]
  conv => lhs; arg 2; whnf
  simp +contextual -implicitDefEqProofs (maxSteps := 10000000) only [↓wk0, ↓wk1, ↓wk2, ↓wk3, ↓wk4, ↓wk5, ↓wk6, ↓wk7, ↓wk8, ↓wk9, ↓wk10, ↓wk11, ↓wt0, ↓wt1, ↓wt2, ↓wt3, ↓lv74, ↓fz74, ↓tbr74, ↓reduceIte, wu0, wu1, Nat.reduceEqDiff, Nat.reduceLT, Nat.reduceAdd, Nat.reduceMul, Nat.reduceSub, Nat.reduceDiv, reduceCtorEq, Int.reduceAdd, Int.reduceLE, Int.reduceLT, Int.reduceToNat, Int.reduceEq, Int.reduceBEq, Nat.reduceLeDiff, Nat.reduceLeDiff, UInt8.reduceToNat, leave_lvB, callD_cdB, lvK_lvB, lvP_lvB, h3, run144, br_eq, br_same]
theorem run74eq {l n : Int} (h1 : 1 ≤ l) (h2 : l ≤ 64) : evW 74 [.str [61], .row 0 0 2, .int .i64 n] [.arr 38 5 [tc 4 l, tc 4 l]] = some (.ret (.tup [tyA 2 0, .bool true]), [.arr 38 5 [tc 4 l, tc 4 l]]) := by
  have h3 := run142 h1 h2
  rw [w74 rfl]
  conv => lhs; arg 2; whnf
  simp +contextual -implicitDefEqProofs (maxSteps := 10000000) only [↓wk0, ↓wk1, ↓wk2, ↓wk3, ↓wk4, ↓wk5, ↓wk6, ↓wk7, ↓wk8, ↓wk9, ↓wk10, ↓wk11, ↓wt0, ↓wt1, ↓wt2, ↓wt3, ↓lv74, ↓fz74, ↓tbr74, ↓reduceIte, wu0, wu1, Nat.reduceEqDiff, Nat.reduceLT, Nat.reduceAdd, Nat.reduceMul, Nat.reduceSub, Nat.reduceDiv, reduceCtorEq, Int.reduceAdd, Int.reduceLE, Int.reduceLT, Int.reduceToNat, Int.reduceEq, Int.reduceBEq, Nat.reduceLeDiff, Nat.reduceLeDiff, UInt8.reduceToNat, leave_lvB, callD_cdB, lvK_lvB, lvP_lvB, h3, run144, br_eq, br_same]
theorem run74ne {l n : Int} (h1 : 1 ≤ l) (h2 : l ≤ 64) : evW 74 [.str [47, 61], .row 0 0 2, .int .i64 n] [.arr 38 5 [tc 4 l, tc 4 l]] = some (.ret (.tup [tyA 2 0, .bool true]), [.arr 38 5 [tc 4 l, tc 4 l]]) := by
  have h3 := run142 h1 h2
  rw [w74 rfl]
  conv => lhs; arg 2; whnf
  simp +contextual -implicitDefEqProofs (maxSteps := 10000000) only [↓wk0, ↓wk1, ↓wk2, ↓wk3, ↓wk4, ↓wk5, ↓wk6, ↓wk7, ↓wk8, ↓wk9, ↓wk10, ↓wk11, ↓wt0, ↓wt1, ↓wt2, ↓wt3, ↓lv74, ↓fz74, ↓tbr74, ↓reduceIte, wu0, wu1, Nat.reduceEqDiff, Nat.reduceLT, Nat.reduceAdd, Nat.reduceMul, Nat.reduceSub, Nat.reduceDiv, reduceCtorEq, Int.reduceAdd, Int.reduceLE, Int.reduceLT, Int.reduceToNat, Int.reduceEq, Int.reduceBEq, Nat.reduceLeDiff, Nat.reduceLeDiff, UInt8.reduceToNat, leave_lvB, callD_cdB, lvK_lvB, lvP_lvB, h3, run144, br_eq, br_same]
theorem run74iadd {n : Int} : evW 74 [.str [43], .row 0 0 2, .int .i64 n] [.arr 38 5 [tc 3 0, tc 3 0]] = some (.ret (.tup [tyA 3 0, .bool true]), [.arr 38 5 [tc 3 0, tc 3 0]]) := by
  rw [w74 rfl]
  conv => lhs; arg 2; whnf
  simp +contextual -implicitDefEqProofs (maxSteps := 10000000) only [↓wk0, ↓wk1, ↓wk2, ↓wk3, ↓wk4, ↓wk5, ↓wk6, ↓wk7, ↓wk8, ↓wk9, ↓wk10, ↓wk11, ↓wt0, ↓wt1, ↓wt2, ↓wt3, ↓lv74, ↓fz74, ↓tbr74, ↓reduceIte, wu0, wu1, Nat.reduceEqDiff, Nat.reduceLT, Nat.reduceAdd, Nat.reduceMul, Nat.reduceSub, Nat.reduceDiv, reduceCtorEq, Int.reduceAdd, Int.reduceLE, Int.reduceLT, Int.reduceToNat, Int.reduceEq, Int.reduceBEq, Nat.reduceLeDiff, Nat.reduceLeDiff, UInt8.reduceToNat, leave_lvB, callD_cdB, lvK_lvB, lvP_lvB, run142i, run144, br_eq, br_same]
theorem run74isub {n : Int} : evW 74 [.str [45], .row 0 0 2, .int .i64 n] [.arr 38 5 [tc 3 0, tc 3 0]] = some (.ret (.tup [tyA 3 0, .bool true]), [.arr 38 5 [tc 3 0, tc 3 0]]) := by
  rw [w74 rfl]
  conv => lhs; arg 2; whnf
  simp +contextual -implicitDefEqProofs (maxSteps := 10000000) only [↓wk0, ↓wk1, ↓wk2, ↓wk3, ↓wk4, ↓wk5, ↓wk6, ↓wk7, ↓wk8, ↓wk9, ↓wk10, ↓wk11, ↓wt0, ↓wt1, ↓wt2, ↓wt3, ↓lv74, ↓fz74, ↓tbr74, ↓reduceIte, wu0, wu1, Nat.reduceEqDiff, Nat.reduceLT, Nat.reduceAdd, Nat.reduceMul, Nat.reduceSub, Nat.reduceDiv, reduceCtorEq, Int.reduceAdd, Int.reduceLE, Int.reduceLT, Int.reduceToNat, Int.reduceEq, Int.reduceBEq, Nat.reduceLeDiff, Nat.reduceLeDiff, UInt8.reduceToNat, leave_lvB, callD_cdB, lvK_lvB, lvP_lvB, run142i, run144, br_eq, br_same]
theorem run74imul {n : Int} : evW 74 [.str [42], .row 0 0 2, .int .i64 n] [.arr 38 5 [tc 3 0, tc 3 0]] = some (.ret (.tup [tyA 3 0, .bool true]), [.arr 38 5 [tc 3 0, tc 3 0]]) := by
  rw [w74 rfl]
  conv => lhs; arg 2; whnf
  simp +contextual -implicitDefEqProofs (maxSteps := 10000000) only [↓wk0, ↓wk1, ↓wk2, ↓wk3, ↓wk4, ↓wk5, ↓wk6, ↓wk7, ↓wk8, ↓wk9, ↓wk10, ↓wk11, ↓wt0, ↓wt1, ↓wt2, ↓wt3, ↓lv74, ↓fz74, ↓tbr74, ↓reduceIte, wu0, wu1, Nat.reduceEqDiff, Nat.reduceLT, Nat.reduceAdd, Nat.reduceMul, Nat.reduceSub, Nat.reduceDiv, reduceCtorEq, Int.reduceAdd, Int.reduceLE, Int.reduceLT, Int.reduceToNat, Int.reduceEq, Int.reduceBEq, Nat.reduceLeDiff, Nat.reduceLeDiff, UInt8.reduceToNat, leave_lvB, callD_cdB, lvK_lvB, lvP_lvB, run142i, run144, br_eq, br_same]
theorem run74idiv {n : Int} : evW 74 [.str [47], .row 0 0 2, .int .i64 n] [.arr 38 5 [tc 3 0, tc 3 0]] = some (.ret (.tup [tyA 3 0, .bool true]), [.arr 38 5 [tc 3 0, tc 3 0]]) := by
  rw [w74 rfl]
  conv => lhs; arg 2; whnf
  simp +contextual -implicitDefEqProofs (maxSteps := 10000000) only [↓wk0, ↓wk1, ↓wk2, ↓wk3, ↓wk4, ↓wk5, ↓wk6, ↓wk7, ↓wk8, ↓wk9, ↓wk10, ↓wk11, ↓wt0, ↓wt1, ↓wt2, ↓wt3, ↓lv74, ↓fz74, ↓tbr74, ↓reduceIte, wu0, wu1, Nat.reduceEqDiff, Nat.reduceLT, Nat.reduceAdd, Nat.reduceMul, Nat.reduceSub, Nat.reduceDiv, reduceCtorEq, Int.reduceAdd, Int.reduceLE, Int.reduceLT, Int.reduceToNat, Int.reduceEq, Int.reduceBEq, Nat.reduceLeDiff, Nat.reduceLeDiff, UInt8.reduceToNat, leave_lvB, callD_cdB, lvK_lvB, lvP_lvB, run142i, run144, br_eq, br_same]
theorem run74imod {n : Int} : evW 74 [.str [109, 111, 100], .row 0 0 2, .int .i64 n] [.arr 38 5 [tc 3 0, tc 3 0]] = some (.ret (.tup [tyA 3 0, .bool true]), [.arr 38 5 [tc 3 0, tc 3 0]]) := by
  rw [w74 rfl]
  conv => lhs; arg 2; whnf
  simp +contextual -implicitDefEqProofs (maxSteps := 10000000) only [↓wk0, ↓wk1, ↓wk2, ↓wk3, ↓wk4, ↓wk5, ↓wk6, ↓wk7, ↓wk8, ↓wk9, ↓wk10, ↓wk11, ↓wt0, ↓wt1, ↓wt2, ↓wt3, ↓lv74, ↓fz74, ↓tbr74, ↓reduceIte, wu0, wu1, Nat.reduceEqDiff, Nat.reduceLT, Nat.reduceAdd, Nat.reduceMul, Nat.reduceSub, Nat.reduceDiv, reduceCtorEq, Int.reduceAdd, Int.reduceLE, Int.reduceLT, Int.reduceToNat, Int.reduceEq, Int.reduceBEq, Nat.reduceLeDiff, Nat.reduceLeDiff, UInt8.reduceToNat, leave_lvB, callD_cdB, lvK_lvB, lvP_lvB, run142i, run144, br_eq, br_same]
end Go.Proofs.YtdhcgankmhpgeaaGreat.M
