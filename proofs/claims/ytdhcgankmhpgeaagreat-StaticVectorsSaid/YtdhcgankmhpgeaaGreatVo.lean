import Derived.Test.YtdhcgankmhpgeaaGreatVn
set_option linter.unusedSectionVars false
namespace Go.Proofs.YtdhcgankmhpgeaaGreat.M
open Go
set_option linter.unusedSimpArgs false
set_option linter.unusedVariables false
set_option maxRecDepth 100000
set_option maxHeartbeats 4000000
attribute [local congr] br_congr ob2_congr cnd_congr gdK_congr ob_congr clK_congr finK_congr reg_congr pkK_congr kTK_congr dlT_congr gck_congr iff2_congr sel_congr dPn_congr apJ_congr nmK_congr kTo_congr fzO_congr rcK_congr lvB_congr crK_congr cdB_congr
abbrev vln (xs : List Int) : AV := .agg [.int .i64 4, .int .i64 0, bitsA xs, .nils]
abbrev vn (xs : List Int) : List AV := [.int .i64 4, .int .i64 0, bitsA xs, .nils]
theorem run32v {xs : List Int} (hx : isP xs = true) : evW 32 [tyA 4 xs.length, vln xs] [] = some (.ret (.bool true), []) :=
  evW_canon.trans ((by kernel_rfl : evW 32 (canVs (ashOf 32) [tyA 4 xs.length, vln xs]) [] = evW 32 [tyA 4 xs.length, vl 4 0 (bitsA xs)] []).trans (run32 hx))
theorem run40v {xs bs : List Int} (hx : isP xs = true) (hb : isP bs = true) (hl : xs.length = bs.length) : evW 40 [tyA 4 xs.length, vln xs, vln bs] [] = some (.ret (.tup [.bool (eqB xs bs), okE]), []) :=
  evW_canon.trans ((by kernel_rfl : evW 40 (canVs (ashOf 40) [tyA 4 xs.length, vln xs, vln bs]) [] = evW 40 [tyA 4 xs.length, vl 4 0 (bitsA xs), vl 4 0 (bitsA bs)] []).trans (run40 hx hb hl))
theorem run65v {xs bs : List Int} (hx : isP xs = true) (hb : isP bs = true) (hl : xs.length = bs.length) : evW 65 [.row 0 0 2, .row 1 0 2, .fn 32 []] [.arr 38 5 [tc 4 xs.length, tc 4 xs.length], .arr 33 4 [vn xs, vn bs]] = some (.ret (.bool true), [.arr 38 5 [tc 4 xs.length, tc 4 xs.length], .arr 33 4 [vn xs, vn bs]]) := by
  have h1 := run32v hx
  have h2 := run32v hb
  rw [← hl] at h2
  rw [w65 rfl]
  conv => lhs; arg 2; whnf
  simp +contextual -implicitDefEqProofs (maxSteps := 10000000) only [↓wk0, ↓wk1, ↓wk2, ↓wk3, ↓wk4, ↓wk5, ↓wk6, ↓wk7, ↓wk8, ↓wk9, ↓wk10, ↓wk11, ↓wt0, ↓wt1, ↓wt2, ↓wt3, ↓lv65, ↓fz65, ↓reduceIte, wu0, wu1, Nat.reduceEqDiff, Nat.reduceLT, Nat.reduceAdd, Nat.reduceMul, Nat.reduceSub, Nat.reduceDiv, reduceCtorEq, Int.reduceAdd, Int.reduceLE, Int.reduceLT, Int.reduceToNat, Int.reduceEq, Int.reduceBEq, Nat.reduceLeDiff, Nat.reduceLeDiff, UInt8.reduceToNat, leave_lvB, callD_cdB, lvK_lvB, lvP_lvB, h1, h2, br_eq, br_same]
  refine (lpX_code (c' := lp Tryz.f65 0) (by kernel_rfl)).trans ?_
  rw [lq65_0]
  try simp +contextual -implicitDefEqProofs (maxSteps := 10000000) only [↓wk0, ↓wk1, ↓wk2, ↓wk3, ↓wk4, ↓wk5, ↓wk6, ↓wk7, ↓wk8, ↓wk9, ↓wk10, ↓wk11, ↓wt0, ↓wt1, ↓wt2, ↓wt3, ↓lv65, ↓fz65, ↓reduceIte, wu0, wu1, Nat.reduceEqDiff, Nat.reduceLT, Nat.reduceAdd, Nat.reduceMul, Nat.reduceSub, Nat.reduceDiv, reduceCtorEq, Int.reduceAdd, Int.reduceLE, Int.reduceLT, Int.reduceToNat, Int.reduceEq, Int.reduceBEq, Nat.reduceLeDiff, Nat.reduceLeDiff, UInt8.reduceToNat, leave_lvB, callD_cdB, lvK_lvB, lvP_lvB, h1, h2, br_eq, br_same]
  unfold lpN
  conv => lhs; arg 2; whnf
  simp +contextual -implicitDefEqProofs (maxSteps := 10000000) only [↓wk0, ↓wk1, ↓wk2, ↓wk3, ↓wk4, ↓wk5, ↓wk6, ↓wk7, ↓wk8, ↓wk9, ↓wk10, ↓wk11, ↓wt0, ↓wt1, ↓wt2, ↓wt3, ↓lv65, ↓fz65, ↓reduceIte, wu0, wu1, Nat.reduceEqDiff, Nat.reduceLT, Nat.reduceAdd, Nat.reduceMul, Nat.reduceSub, Nat.reduceDiv, reduceCtorEq, Int.reduceAdd, Int.reduceLE, Int.reduceLT, Int.reduceToNat, Int.reduceEq, Int.reduceBEq, Nat.reduceLeDiff, Nat.reduceLeDiff, UInt8.reduceToNat, leave_lvB, callD_cdB, lvK_lvB, lvP_lvB, h1, h2, lq65_0, br_eq, br_same]
  unfold lpN
  conv => lhs; arg 2; whnf
  simp +contextual -implicitDefEqProofs (maxSteps := 10000000) only [↓wk0, ↓wk1, ↓wk2, ↓wk3, ↓wk4, ↓wk5, ↓wk6, ↓wk7, ↓wk8, ↓wk9, ↓wk10, ↓wk11, ↓wt0, ↓wt1, ↓wt2, ↓wt3, ↓lv65, ↓fz65, ↓reduceIte, wu0, wu1, Nat.reduceEqDiff, Nat.reduceLT, Nat.reduceAdd, Nat.reduceMul, Nat.reduceSub, Nat.reduceDiv, reduceCtorEq, Int.reduceAdd, Int.reduceLE, Int.reduceLT, Int.reduceToNat, Int.reduceEq, Int.reduceBEq, Nat.reduceLeDiff, Nat.reduceLeDiff, UInt8.reduceToNat, leave_lvB, callD_cdB, lvK_lvB, lvP_lvB, h1, h2, lq65_0, br_eq, br_same]
  unfold lpN
  conv => lhs; arg 2; whnf
  simp +contextual -implicitDefEqProofs (maxSteps := 10000000) only [↓wk0, ↓wk1, ↓wk2, ↓wk3, ↓wk4, ↓wk5, ↓wk6, ↓wk7, ↓wk8, ↓wk9, ↓wk10, ↓wk11, ↓wt0, ↓wt1, ↓wt2, ↓wt3, ↓lv65, ↓fz65, ↓reduceIte, wu0, wu1, Nat.reduceEqDiff, Nat.reduceLT, Nat.reduceAdd, Nat.reduceMul, Nat.reduceSub, Nat.reduceDiv, reduceCtorEq, Int.reduceAdd, Int.reduceLE, Int.reduceLT, Int.reduceToNat, Int.reduceEq, Int.reduceBEq, Nat.reduceLeDiff, Nat.reduceLeDiff, UInt8.reduceToNat, leave_lvB, callD_cdB, lvK_lvB, lvP_lvB, h1, h2, lq65_0, br_eq, br_same]
theorem run151addv {xs bs : List Int} (hx : isP xs = true) (hb : isP bs = true) (hl : xs.length = bs.length) : evW 151 [.str [43], vln xs, vln bs, tyA 4 xs.length] [] = some (.ret (.tup [vl 4 0 (bitsA (cmpF (fun x y => IntKind.u64.wrap (x + y)) xs bs)), okE]), []) :=
  evW_canon.trans ((by kernel_rfl : evW 151 (canVs (ashOf 151) [.str [43], vln xs, vln bs, tyA 4 xs.length]) [] = evW 151 [.str [43], vl 4 0 (bitsA xs), vl 4 0 (bitsA bs), tyA 4 xs.length] []).trans (run151add hx hb hl (l := xs.length)))
theorem run75add {xs bs : List Int} (hx : isP xs = true) (hb : isP bs = true) (hl : xs.length = bs.length) : evW 75 [.str [43], .row 0 0 2, .row 1 0 2] [.arr 33 4 [vn xs, vn bs], .arr 38 5 [tc 4 xs.length, tc 4 xs.length]] = some (.ret (.tup [vl 4 0 (bitsA (cmpF (fun x y => IntKind.u64.wrap (x + y)) xs bs)), okE]), [.arr 33 4 [vn xs, vn bs], .arr 38 5 [tc 4 xs.length, tc 4 xs.length]]) := by
  have h3 := run151addv hx hb hl
  rw [w75 rfl]
  conv => lhs; arg 2; whnf
  simp +contextual -implicitDefEqProofs (maxSteps := 10000000) only [↓wk0, ↓wk1, ↓wk2, ↓wk3, ↓wk4, ↓wk5, ↓wk6, ↓wk7, ↓wk8, ↓wk9, ↓wk10, ↓wk11, ↓wt0, ↓wt1, ↓wt2, ↓wt3, ↓lv75, ↓fz75, ↓tbr75, ↓reduceIte, wu0, wu1, Nat.reduceEqDiff, Nat.reduceLT, Nat.reduceAdd, Nat.reduceMul, Nat.reduceSub, Nat.reduceDiv, reduceCtorEq, Int.reduceAdd, Int.reduceLE, Int.reduceLT, Int.reduceToNat, Int.reduceEq, Int.reduceBEq, Nat.reduceLeDiff, Nat.reduceLeDiff, UInt8.reduceToNat, leave_lvB, callD_cdB, lvK_lvB, lvP_lvB, h3, br_eq, br_same]
theorem run151subv {xs bs : List Int} (hx : isP xs = true) (hb : isP bs = true) (hl : xs.length = bs.length) : evW 151 [.str [45], vln xs, vln bs, tyA 4 xs.length] [] = some (.ret (.tup [vl 4 0 (bitsA (cmpF (fun x y => IntKind.u64.wrap (x - y)) xs bs)), okE]), []) :=
  evW_canon.trans ((by kernel_rfl : evW 151 (canVs (ashOf 151) [.str [45], vln xs, vln bs, tyA 4 xs.length]) [] = evW 151 [.str [45], vl 4 0 (bitsA xs), vl 4 0 (bitsA bs), tyA 4 xs.length] []).trans (run151sub hx hb hl (l := xs.length)))
theorem run75sub {xs bs : List Int} (hx : isP xs = true) (hb : isP bs = true) (hl : xs.length = bs.length) : evW 75 [.str [45], .row 0 0 2, .row 1 0 2] [.arr 33 4 [vn xs, vn bs], .arr 38 5 [tc 4 xs.length, tc 4 xs.length]] = some (.ret (.tup [vl 4 0 (bitsA (cmpF (fun x y => IntKind.u64.wrap (x - y)) xs bs)), okE]), [.arr 33 4 [vn xs, vn bs], .arr 38 5 [tc 4 xs.length, tc 4 xs.length]]) := by
  have h3 := run151subv hx hb hl
  rw [w75 rfl]
  conv => lhs; arg 2; whnf
  simp +contextual -implicitDefEqProofs (maxSteps := 10000000) only [↓wk0, ↓wk1, ↓wk2, ↓wk3, ↓wk4, ↓wk5, ↓wk6, ↓wk7, ↓wk8, ↓wk9, ↓wk10, ↓wk11, ↓wt0, ↓wt1, ↓wt2, ↓wt3, ↓lv75, ↓fz75, ↓tbr75, ↓reduceIte, wu0, wu1, Nat.reduceEqDiff, Nat.reduceLT, Nat.reduceAdd, Nat.reduceMul, Nat.reduceSub, Nat.reduceDiv, reduceCtorEq, Int.reduceAdd, Int.reduceLE, Int.reduceLT, Int.reduceToNat, Int.reduceEq, Int.reduceBEq, Nat.reduceLeDiff, Nat.reduceLeDiff, UInt8.reduceToNat, leave_lvB, callD_cdB, lvK_lvB, lvP_lvB, h3, br_eq, br_same]
theorem run151mulv {xs bs : List Int} (hx : isP xs = true) (hb : isP bs = true) (hl : xs.length = bs.length) : evW 151 [.str [42], vln xs, vln bs, tyA 4 xs.length] [] = some (.ret (.tup [vl 4 0 (bitsA (cmpF (fun x y => IntKind.u64.wrap (x * y)) xs bs)), okE]), []) :=
  evW_canon.trans ((by kernel_rfl : evW 151 (canVs (ashOf 151) [.str [42], vln xs, vln bs, tyA 4 xs.length]) [] = evW 151 [.str [42], vl 4 0 (bitsA xs), vl 4 0 (bitsA bs), tyA 4 xs.length] []).trans (run151mul hx hb hl (l := xs.length)))
theorem run75mul {xs bs : List Int} (hx : isP xs = true) (hb : isP bs = true) (hl : xs.length = bs.length) : evW 75 [.str [42], .row 0 0 2, .row 1 0 2] [.arr 33 4 [vn xs, vn bs], .arr 38 5 [tc 4 xs.length, tc 4 xs.length]] = some (.ret (.tup [vl 4 0 (bitsA (cmpF (fun x y => IntKind.u64.wrap (x * y)) xs bs)), okE]), [.arr 33 4 [vn xs, vn bs], .arr 38 5 [tc 4 xs.length, tc 4 xs.length]]) := by
  have h3 := run151mulv hx hb hl
  rw [w75 rfl]
  conv => lhs; arg 2; whnf
  simp +contextual -implicitDefEqProofs (maxSteps := 10000000) only [↓wk0, ↓wk1, ↓wk2, ↓wk3, ↓wk4, ↓wk5, ↓wk6, ↓wk7, ↓wk8, ↓wk9, ↓wk10, ↓wk11, ↓wt0, ↓wt1, ↓wt2, ↓wt3, ↓lv75, ↓fz75, ↓tbr75, ↓reduceIte, wu0, wu1, Nat.reduceEqDiff, Nat.reduceLT, Nat.reduceAdd, Nat.reduceMul, Nat.reduceSub, Nat.reduceDiv, reduceCtorEq, Int.reduceAdd, Int.reduceLE, Int.reduceLT, Int.reduceToNat, Int.reduceEq, Int.reduceBEq, Nat.reduceLeDiff, Nat.reduceLeDiff, UInt8.reduceToNat, leave_lvB, callD_cdB, lvK_lvB, lvP_lvB, h3, br_eq, br_same]
theorem run151lessv {xs bs : List Int} (hx : isP xs = true) (hb : isP bs = true) (hl : xs.length = bs.length) : evW 151 [.str [60], vln xs, vln bs, tyA 4 xs.length] [] = some (.ret (.tup [vl 2 (br (lessF xs bs && (knownB xs && knownB bs)) 1 0) (.sl 1 []), okE]), []) :=
  evW_canon.trans ((by kernel_rfl : evW 151 (canVs (ashOf 151) [.str [60], vln xs, vln bs, tyA 4 xs.length]) [] = evW 151 [.str [60], vl 4 0 (bitsA xs), vl 4 0 (bitsA bs), tyA 4 xs.length] []).trans (run151less hx hb hl (l := xs.length)))
theorem run75less {xs bs : List Int} (hx : isP xs = true) (hb : isP bs = true) (hl : xs.length = bs.length) : evW 75 [.str [60], .row 0 0 2, .row 1 0 2] [.arr 33 4 [vn xs, vn bs], .arr 38 5 [tc 4 xs.length, tc 4 xs.length]] = some (.ret (.tup [vl 2 (br (lessF xs bs && (knownB xs && knownB bs)) 1 0) (.sl 1 []), okE]), [.arr 33 4 [vn xs, vn bs], .arr 38 5 [tc 4 xs.length, tc 4 xs.length]]) := by
  have h3 := run151lessv hx hb hl
  rw [w75 rfl]
  conv => lhs; arg 2; whnf
  simp +contextual -implicitDefEqProofs (maxSteps := 10000000) only [↓wk0, ↓wk1, ↓wk2, ↓wk3, ↓wk4, ↓wk5, ↓wk6, ↓wk7, ↓wk8, ↓wk9, ↓wk10, ↓wk11, ↓wt0, ↓wt1, ↓wt2, ↓wt3, ↓lv75, ↓fz75, ↓tbr75, ↓reduceIte, wu0, wu1, Nat.reduceEqDiff, Nat.reduceLT, Nat.reduceAdd, Nat.reduceMul, Nat.reduceSub, Nat.reduceDiv, reduceCtorEq, Int.reduceAdd, Int.reduceLE, Int.reduceLT, Int.reduceToNat, Int.reduceEq, Int.reduceBEq, Nat.reduceLeDiff, Nat.reduceLeDiff, UInt8.reduceToNat, leave_lvB, callD_cdB, lvK_lvB, lvP_lvB, h3, br_eq, br_same]
theorem run75eqt {xs bs : List Int} (hx : isP xs = true) (hb : isP bs = true) (hl : xs.length = bs.length) (he : eqB xs bs = true) : evW 75 [.str [61], .row 0 0 2, .row 1 0 2] [.arr 33 4 [vn xs, vn bs], .arr 38 5 [tc 4 xs.length, tc 4 xs.length]] = some (.ret (.tup [vl 2 1 (.sl 1 []), okE]), [.arr 33 4 [vn xs, vn bs], .arr 38 5 [tc 4 xs.length, tc 4 xs.length]]) := by
  have h3 := run40v hx hb hl
  rw [he] at h3
  rw [w75 rfl]
  conv => lhs; arg 2; whnf
  simp +contextual -implicitDefEqProofs (maxSteps := 10000000) only [↓wk0, ↓wk1, ↓wk2, ↓wk3, ↓wk4, ↓wk5, ↓wk6, ↓wk7, ↓wk8, ↓wk9, ↓wk10, ↓wk11, ↓wt0, ↓wt1, ↓wt2, ↓wt3, ↓lv75, ↓fz75, ↓tbr75, ↓reduceIte, wu0, wu1, Nat.reduceEqDiff, Nat.reduceLT, Nat.reduceAdd, Nat.reduceMul, Nat.reduceSub, Nat.reduceDiv, reduceCtorEq, Int.reduceAdd, Int.reduceLE, Int.reduceLT, Int.reduceToNat, Int.reduceEq, Int.reduceBEq, Nat.reduceLeDiff, Nat.reduceLeDiff, UInt8.reduceToNat, leave_lvB, callD_cdB, lvK_lvB, lvP_lvB, h3, run150, br_eq, br_same]
theorem run75eqf {xs bs : List Int} (hx : isP xs = true) (hb : isP bs = true) (hl : xs.length = bs.length) (he : eqB xs bs = false) : evW 75 [.str [61], .row 0 0 2, .row 1 0 2] [.arr 33 4 [vn xs, vn bs], .arr 38 5 [tc 4 xs.length, tc 4 xs.length]] = some (.ret (.tup [vl 2 0 (.sl 1 []), okE]), [.arr 33 4 [vn xs, vn bs], .arr 38 5 [tc 4 xs.length, tc 4 xs.length]]) := by
  have h3 := run40v hx hb hl
  rw [he] at h3
  rw [w75 rfl]
  conv => lhs; arg 2; whnf
  simp +contextual -implicitDefEqProofs (maxSteps := 10000000) only [↓wk0, ↓wk1, ↓wk2, ↓wk3, ↓wk4, ↓wk5, ↓wk6, ↓wk7, ↓wk8, ↓wk9, ↓wk10, ↓wk11, ↓wt0, ↓wt1, ↓wt2, ↓wt3, ↓lv75, ↓fz75, ↓tbr75, ↓reduceIte, wu0, wu1, Nat.reduceEqDiff, Nat.reduceLT, Nat.reduceAdd, Nat.reduceMul, Nat.reduceSub, Nat.reduceDiv, reduceCtorEq, Int.reduceAdd, Int.reduceLE, Int.reduceLT, Int.reduceToNat, Int.reduceEq, Int.reduceBEq, Nat.reduceLeDiff, Nat.reduceLeDiff, UInt8.reduceToNat, leave_lvB, callD_cdB, lvK_lvB, lvP_lvB, h3, run150, br_eq, br_same]
  rfl
theorem run75net {xs bs : List Int} (hx : isP xs = true) (hb : isP bs = true) (hl : xs.length = bs.length) (he : eqB xs bs = true) : evW 75 [.str [47, 61], .row 0 0 2, .row 1 0 2] [.arr 33 4 [vn xs, vn bs], .arr 38 5 [tc 4 xs.length, tc 4 xs.length]] = some (.ret (.tup [vl 2 0 (.sl 1 []), okE]), [.arr 33 4 [vn xs, vn bs], .arr 38 5 [tc 4 xs.length, tc 4 xs.length]]) := by
  have h3 := run40v hx hb hl
  rw [he] at h3
  rw [w75 rfl]
  conv => lhs; arg 2; whnf
  simp +contextual -implicitDefEqProofs (maxSteps := 10000000) only [↓wk0, ↓wk1, ↓wk2, ↓wk3, ↓wk4, ↓wk5, ↓wk6, ↓wk7, ↓wk8, ↓wk9, ↓wk10, ↓wk11, ↓wt0, ↓wt1, ↓wt2, ↓wt3, ↓lv75, ↓fz75, ↓tbr75, ↓reduceIte, wu0, wu1, Nat.reduceEqDiff, Nat.reduceLT, Nat.reduceAdd, Nat.reduceMul, Nat.reduceSub, Nat.reduceDiv, reduceCtorEq, Int.reduceAdd, Int.reduceLE, Int.reduceLT, Int.reduceToNat, Int.reduceEq, Int.reduceBEq, Nat.reduceLeDiff, Nat.reduceLeDiff, UInt8.reduceToNat, leave_lvB, callD_cdB, lvK_lvB, lvP_lvB, h3, run150, br_eq, br_same]
  rfl
theorem run75nef {xs bs : List Int} (hx : isP xs = true) (hb : isP bs = true) (hl : xs.length = bs.length) (he : eqB xs bs = false) : evW 75 [.str [47, 61], .row 0 0 2, .row 1 0 2] [.arr 33 4 [vn xs, vn bs], .arr 38 5 [tc 4 xs.length, tc 4 xs.length]] = some (.ret (.tup [vl 2 1 (.sl 1 []), okE]), [.arr 33 4 [vn xs, vn bs], .arr 38 5 [tc 4 xs.length, tc 4 xs.length]]) := by
  have h3 := run40v hx hb hl
  rw [he] at h3
  rw [w75 rfl]
  conv => lhs; arg 2; whnf
  simp +contextual -implicitDefEqProofs (maxSteps := 10000000) only [↓wk0, ↓wk1, ↓wk2, ↓wk3, ↓wk4, ↓wk5, ↓wk6, ↓wk7, ↓wk8, ↓wk9, ↓wk10, ↓wk11, ↓wt0, ↓wt1, ↓wt2, ↓wt3, ↓lv75, ↓fz75, ↓tbr75, ↓reduceIte, wu0, wu1, Nat.reduceEqDiff, Nat.reduceLT, Nat.reduceAdd, Nat.reduceMul, Nat.reduceSub, Nat.reduceDiv, reduceCtorEq, Int.reduceAdd, Int.reduceLE, Int.reduceLT, Int.reduceToNat, Int.reduceEq, Int.reduceBEq, Nat.reduceLeDiff, Nat.reduceLeDiff, UInt8.reduceToNat, leave_lvB, callD_cdB, lvK_lvB, lvP_lvB, h3, run150, br_eq, br_same]
theorem run75iadd {a b : Int} (h : intE addI false a b = 0) : evW 75 [.str [43], .row 0 0 2, .row 1 0 2] [.arr 33 4 [vc 3 a (.sl 1 []), vc 3 b (.sl 1 [])], .arr 38 5 [tc 3 0, tc 3 0]] = some (.ret (.tup [vl 3 (intN addI false a b) (.sl 1 []), okE]), [.arr 33 4 [vc 3 a (.sl 1 []), vc 3 b (.sl 1 [])], .arr 38 5 [tc 3 0, tc 3 0]]) := by
  have h3 := run148add (a := a) (b := b)
  rw [h, show ((0 : Int) == 0) = true from rfl, br_true] at h3
  rw [w75 rfl]
  conv => lhs; arg 2; whnf
  simp +contextual -implicitDefEqProofs (maxSteps := 10000000) only [↓wk0, ↓wk1, ↓wk2, ↓wk3, ↓wk4, ↓wk5, ↓wk6, ↓wk7, ↓wk8, ↓wk9, ↓wk10, ↓wk11, ↓wt0, ↓wt1, ↓wt2, ↓wt3, ↓lv75, ↓fz75, ↓tbr75, ↓reduceIte, wu0, wu1, Nat.reduceEqDiff, Nat.reduceLT, Nat.reduceAdd, Nat.reduceMul, Nat.reduceSub, Nat.reduceDiv, reduceCtorEq, Int.reduceAdd, Int.reduceLE, Int.reduceLT, Int.reduceToNat, Int.reduceEq, Int.reduceBEq, Nat.reduceLeDiff, Nat.reduceLeDiff, UInt8.reduceToNat, leave_lvB, callD_cdB, lvK_lvB, lvP_lvB, h3, br_eq, br_same]
theorem run75eadd {a b : Int} (h : (intE addI false a b == 0) = false) : evW 75 [.str [43], .row 0 0 2, .row 1 0 2] [.arr 33 4 [vc 3 a (.sl 1 []), vc 3 b (.sl 1 [])], .arr 38 5 [tc 3 0, tc 3 0]] = some (.ret (.tup [vl 0 0 (.sl 1 []), .int .i64 (intE addI false a b)]), [.arr 33 4 [vc 3 a (.sl 1 []), vc 3 b (.sl 1 [])], .arr 38 5 [tc 3 0, tc 3 0]]) := by
  have h3 := run148add (a := a) (b := b)
  rw [h, br_false] at h3
  rw [w75 rfl]
  conv => lhs; arg 2; whnf
  simp +contextual -implicitDefEqProofs (maxSteps := 10000000) only [↓wk0, ↓wk1, ↓wk2, ↓wk3, ↓wk4, ↓wk5, ↓wk6, ↓wk7, ↓wk8, ↓wk9, ↓wk10, ↓wk11, ↓wt0, ↓wt1, ↓wt2, ↓wt3, ↓lv75, ↓fz75, ↓tbr75, ↓reduceIte, wu0, wu1, Nat.reduceEqDiff, Nat.reduceLT, Nat.reduceAdd, Nat.reduceMul, Nat.reduceSub, Nat.reduceDiv, reduceCtorEq, Int.reduceAdd, Int.reduceLE, Int.reduceLT, Int.reduceToNat, Int.reduceEq, Int.reduceBEq, Nat.reduceLeDiff, Nat.reduceLeDiff, UInt8.reduceToNat, leave_lvB, callD_cdB, lvK_lvB, lvP_lvB, h3, br_eq, br_same]
theorem run75isub {a b : Int} (h : intE subI false a b = 0) : evW 75 [.str [45], .row 0 0 2, .row 1 0 2] [.arr 33 4 [vc 3 a (.sl 1 []), vc 3 b (.sl 1 [])], .arr 38 5 [tc 3 0, tc 3 0]] = some (.ret (.tup [vl 3 (intN subI false a b) (.sl 1 []), okE]), [.arr 33 4 [vc 3 a (.sl 1 []), vc 3 b (.sl 1 [])], .arr 38 5 [tc 3 0, tc 3 0]]) := by
  have h3 := run148sub (a := a) (b := b)
  rw [h, show ((0 : Int) == 0) = true from rfl, br_true] at h3
  rw [w75 rfl]
  conv => lhs; arg 2; whnf
  simp +contextual -implicitDefEqProofs (maxSteps := 10000000) only [↓wk0, ↓wk1, ↓wk2, ↓wk3, ↓wk4, ↓wk5, ↓wk6, ↓wk7, ↓wk8, ↓wk9, ↓wk10, ↓wk11, ↓wt0, ↓wt1, ↓wt2, ↓wt3, ↓lv75, ↓fz75, ↓tbr75, ↓reduceIte, wu0, wu1, Nat.reduceEqDiff, Nat.reduceLT, Nat.reduceAdd, Nat.reduceMul, Nat.reduceSub, Nat.reduceDiv, reduceCtorEq, Int.reduceAdd, Int.reduceLE, Int.reduceLT, Int.reduceToNat, Int.reduceEq, Int.reduceBEq, Nat.reduceLeDiff, Nat.reduceLeDiff, UInt8.reduceToNat, leave_lvB, callD_cdB, lvK_lvB, lvP_lvB, h3, br_eq, br_same]
theorem run75esub {a b : Int} (h : (intE subI false a b == 0) = false) : evW 75 [.str [45], .row 0 0 2, .row 1 0 2] [.arr 33 4 [vc 3 a (.sl 1 []), vc 3 b (.sl 1 [])], .arr 38 5 [tc 3 0, tc 3 0]] = some (.ret (.tup [vl 0 0 (.sl 1 []), .int .i64 (intE subI false a b)]), [.arr 33 4 [vc 3 a (.sl 1 []), vc 3 b (.sl 1 [])], .arr 38 5 [tc 3 0, tc 3 0]]) := by
  have h3 := run148sub (a := a) (b := b)
  rw [h, br_false] at h3
  rw [w75 rfl]
  conv => lhs; arg 2; whnf
  simp +contextual -implicitDefEqProofs (maxSteps := 10000000) only [↓wk0, ↓wk1, ↓wk2, ↓wk3, ↓wk4, ↓wk5, ↓wk6, ↓wk7, ↓wk8, ↓wk9, ↓wk10, ↓wk11, ↓wt0, ↓wt1, ↓wt2, ↓wt3, ↓lv75, ↓fz75, ↓tbr75, ↓reduceIte, wu0, wu1, Nat.reduceEqDiff, Nat.reduceLT, Nat.reduceAdd, Nat.reduceMul, Nat.reduceSub, Nat.reduceDiv, reduceCtorEq, Int.reduceAdd, Int.reduceLE, Int.reduceLT, Int.reduceToNat, Int.reduceEq, Int.reduceBEq, Nat.reduceLeDiff, Nat.reduceLeDiff, UInt8.reduceToNat, leave_lvB, callD_cdB, lvK_lvB, lvP_lvB, h3, br_eq, br_same]
theorem run75imul {a b : Int} (h : intE mulI false a b = 0) : evW 75 [.str [42], .row 0 0 2, .row 1 0 2] [.arr 33 4 [vc 3 a (.sl 1 []), vc 3 b (.sl 1 [])], .arr 38 5 [tc 3 0, tc 3 0]] = some (.ret (.tup [vl 3 (intN mulI false a b) (.sl 1 []), okE]), [.arr 33 4 [vc 3 a (.sl 1 []), vc 3 b (.sl 1 [])], .arr 38 5 [tc 3 0, tc 3 0]]) := by
  have h3 := run148mul (a := a) (b := b)
  rw [h, show ((0 : Int) == 0) = true from rfl, br_true] at h3
  rw [w75 rfl]
  conv => lhs; arg 2; whnf
  simp +contextual -implicitDefEqProofs (maxSteps := 10000000) only [↓wk0, ↓wk1, ↓wk2, ↓wk3, ↓wk4, ↓wk5, ↓wk6, ↓wk7, ↓wk8, ↓wk9, ↓wk10, ↓wk11, ↓wt0, ↓wt1, ↓wt2, ↓wt3, ↓lv75, ↓fz75, ↓tbr75, ↓reduceIte, wu0, wu1, Nat.reduceEqDiff, Nat.reduceLT, Nat.reduceAdd, Nat.reduceMul, Nat.reduceSub, Nat.reduceDiv, reduceCtorEq, Int.reduceAdd, Int.reduceLE, Int.reduceLT, Int.reduceToNat, Int.reduceEq, Int.reduceBEq, Nat.reduceLeDiff, Nat.reduceLeDiff, UInt8.reduceToNat, leave_lvB, callD_cdB, lvK_lvB, lvP_lvB, h3, br_eq, br_same]
theorem run75emul {a b : Int} (h : (intE mulI false a b == 0) = false) : evW 75 [.str [42], .row 0 0 2, .row 1 0 2] [.arr 33 4 [vc 3 a (.sl 1 []), vc 3 b (.sl 1 [])], .arr 38 5 [tc 3 0, tc 3 0]] = some (.ret (.tup [vl 0 0 (.sl 1 []), .int .i64 (intE mulI false a b)]), [.arr 33 4 [vc 3 a (.sl 1 []), vc 3 b (.sl 1 [])], .arr 38 5 [tc 3 0, tc 3 0]]) := by
  have h3 := run148mul (a := a) (b := b)
  rw [h, br_false] at h3
  rw [w75 rfl]
  conv => lhs; arg 2; whnf
  simp +contextual -implicitDefEqProofs (maxSteps := 10000000) only [↓wk0, ↓wk1, ↓wk2, ↓wk3, ↓wk4, ↓wk5, ↓wk6, ↓wk7, ↓wk8, ↓wk9, ↓wk10, ↓wk11, ↓wt0, ↓wt1, ↓wt2, ↓wt3, ↓lv75, ↓fz75, ↓tbr75, ↓reduceIte, wu0, wu1, Nat.reduceEqDiff, Nat.reduceLT, Nat.reduceAdd, Nat.reduceMul, Nat.reduceSub, Nat.reduceDiv, reduceCtorEq, Int.reduceAdd, Int.reduceLE, Int.reduceLT, Int.reduceToNat, Int.reduceEq, Int.reduceBEq, Nat.reduceLeDiff, Nat.reduceLeDiff, UInt8.reduceToNat, leave_lvB, callD_cdB, lvK_lvB, lvP_lvB, h3, br_eq, br_same]
theorem run75idiv {a b : Int} (h : intE floorF true a b = 0) : evW 75 [.str [47], .row 0 0 2, .row 1 0 2] [.arr 33 4 [vc 3 a (.sl 1 []), vc 3 b (.sl 1 [])], .arr 38 5 [tc 3 0, tc 3 0]] = some (.ret (.tup [vl 3 (intN floorF true a b) (.sl 1 []), okE]), [.arr 33 4 [vc 3 a (.sl 1 []), vc 3 b (.sl 1 [])], .arr 38 5 [tc 3 0, tc 3 0]]) := by
  have h3 := run148div (a := a) (b := b)
  rw [h, show ((0 : Int) == 0) = true from rfl, br_true] at h3
  rw [w75 rfl]
  conv => lhs; arg 2; whnf
  simp +contextual -implicitDefEqProofs (maxSteps := 10000000) only [↓wk0, ↓wk1, ↓wk2, ↓wk3, ↓wk4, ↓wk5, ↓wk6, ↓wk7, ↓wk8, ↓wk9, ↓wk10, ↓wk11, ↓wt0, ↓wt1, ↓wt2, ↓wt3, ↓lv75, ↓fz75, ↓tbr75, ↓reduceIte, wu0, wu1, Nat.reduceEqDiff, Nat.reduceLT, Nat.reduceAdd, Nat.reduceMul, Nat.reduceSub, Nat.reduceDiv, reduceCtorEq, Int.reduceAdd, Int.reduceLE, Int.reduceLT, Int.reduceToNat, Int.reduceEq, Int.reduceBEq, Nat.reduceLeDiff, Nat.reduceLeDiff, UInt8.reduceToNat, leave_lvB, callD_cdB, lvK_lvB, lvP_lvB, h3, br_eq, br_same]
theorem run75ediv {a b : Int} (h : (intE floorF true a b == 0) = false) : evW 75 [.str [47], .row 0 0 2, .row 1 0 2] [.arr 33 4 [vc 3 a (.sl 1 []), vc 3 b (.sl 1 [])], .arr 38 5 [tc 3 0, tc 3 0]] = some (.ret (.tup [vl 0 0 (.sl 1 []), .int .i64 (intE floorF true a b)]), [.arr 33 4 [vc 3 a (.sl 1 []), vc 3 b (.sl 1 [])], .arr 38 5 [tc 3 0, tc 3 0]]) := by
  have h3 := run148div (a := a) (b := b)
  rw [h, br_false] at h3
  rw [w75 rfl]
  conv => lhs; arg 2; whnf
  simp +contextual -implicitDefEqProofs (maxSteps := 10000000) only [↓wk0, ↓wk1, ↓wk2, ↓wk3, ↓wk4, ↓wk5, ↓wk6, ↓wk7, ↓wk8, ↓wk9, ↓wk10, ↓wk11, ↓wt0, ↓wt1, ↓wt2, ↓wt3, ↓lv75, ↓fz75, ↓tbr75, ↓reduceIte, wu0, wu1, Nat.reduceEqDiff, Nat.reduceLT, Nat.reduceAdd, Nat.reduceMul, Nat.reduceSub, Nat.reduceDiv, reduceCtorEq, Int.reduceAdd, Int.reduceLE, Int.reduceLT, Int.reduceToNat, Int.reduceEq, Int.reduceBEq, Nat.reduceLeDiff, Nat.reduceLeDiff, UInt8.reduceToNat, leave_lvB, callD_cdB, lvK_lvB, lvP_lvB, h3, br_eq, br_same]
theorem run75imod {a b : Int} (h : intE modI true a b = 0) : evW 75 [.str [109, 111, 100], .row 0 0 2, .row 1 0 2] [.arr 33 4 [vc 3 a (.sl 1 []), vc 3 b (.sl 1 [])], .arr 38 5 [tc 3 0, tc 3 0]] = some (.ret (.tup [vl 3 (intN modI true a b) (.sl 1 []), okE]), [.arr 33 4 [vc 3 a (.sl 1 []), vc 3 b (.sl 1 [])], .arr 38 5 [tc 3 0, tc 3 0]]) := by
  have h3 := run148mod (a := a) (b := b)
  rw [h, show ((0 : Int) == 0) = true from rfl, br_true] at h3
  rw [w75 rfl]
  conv => lhs; arg 2; whnf
  simp +contextual -implicitDefEqProofs (maxSteps := 10000000) only [↓wk0, ↓wk1, ↓wk2, ↓wk3, ↓wk4, ↓wk5, ↓wk6, ↓wk7, ↓wk8, ↓wk9, ↓wk10, ↓wk11, ↓wt0, ↓wt1, ↓wt2, ↓wt3, ↓lv75, ↓fz75, ↓tbr75, ↓reduceIte, wu0, wu1, Nat.reduceEqDiff, Nat.reduceLT, Nat.reduceAdd, Nat.reduceMul, Nat.reduceSub, Nat.reduceDiv, reduceCtorEq, Int.reduceAdd, Int.reduceLE, Int.reduceLT, Int.reduceToNat, Int.reduceEq, Int.reduceBEq, Nat.reduceLeDiff, Nat.reduceLeDiff, UInt8.reduceToNat, leave_lvB, callD_cdB, lvK_lvB, lvP_lvB, h3, br_eq, br_same]
theorem run75emod {a b : Int} (h : (intE modI true a b == 0) = false) : evW 75 [.str [109, 111, 100], .row 0 0 2, .row 1 0 2] [.arr 33 4 [vc 3 a (.sl 1 []), vc 3 b (.sl 1 [])], .arr 38 5 [tc 3 0, tc 3 0]] = some (.ret (.tup [vl 0 0 (.sl 1 []), .int .i64 (intE modI true a b)]), [.arr 33 4 [vc 3 a (.sl 1 []), vc 3 b (.sl 1 [])], .arr 38 5 [tc 3 0, tc 3 0]]) := by
  have h3 := run148mod (a := a) (b := b)
  rw [h, br_false] at h3
  rw [w75 rfl]
  conv => lhs; arg 2; whnf
  simp +contextual -implicitDefEqProofs (maxSteps := 10000000) only [↓wk0, ↓wk1, ↓wk2, ↓wk3, ↓wk4, ↓wk5, ↓wk6, ↓wk7, ↓wk8, ↓wk9, ↓wk10, ↓wk11, ↓wt0, ↓wt1, ↓wt2, ↓wt3, ↓lv75, ↓fz75, ↓tbr75, ↓reduceIte, wu0, wu1, Nat.reduceEqDiff, Nat.reduceLT, Nat.reduceAdd, Nat.reduceMul, Nat.reduceSub, Nat.reduceDiv, reduceCtorEq, Int.reduceAdd, Int.reduceLE, Int.reduceLT, Int.reduceToNat, Int.reduceEq, Int.reduceBEq, Nat.reduceLeDiff, Nat.reduceLeDiff, UInt8.reduceToNat, leave_lvB, callD_cdB, lvK_lvB, lvP_lvB, h3, br_eq, br_same]
theorem run65i {a b : Int} (ha : isI a = true) (hb : isI b = true) : evW 65 [.row 0 0 2, .row 1 0 2, .fn 32 []] [.arr 38 5 [tc 3 0, tc 3 0], .arr 33 4 [vc 3 a (.sl 1 []), vc 3 b (.sl 1 [])]] = some (.ret (.bool true), [.arr 38 5 [tc 3 0, tc 3 0], .arr 33 4 [vc 3 a (.sl 1 []), vc 3 b (.sl 1 [])]]) := by
  have h1 := run32i (n := a)
  have h2 := run32i (n := b)
  rw [ha] at h1
  rw [hb] at h2
  rw [w65 rfl]
  conv => lhs; arg 2; whnf
  simp +contextual -implicitDefEqProofs (maxSteps := 10000000) only [↓wk0, ↓wk1, ↓wk2, ↓wk3, ↓wk4, ↓wk5, ↓wk6, ↓wk7, ↓wk8, ↓wk9, ↓wk10, ↓wk11, ↓wt0, ↓wt1, ↓wt2, ↓wt3, ↓lv65, ↓fz65, ↓reduceIte, wu0, wu1, Nat.reduceEqDiff, Nat.reduceLT, Nat.reduceAdd, Nat.reduceMul, Nat.reduceSub, Nat.reduceDiv, reduceCtorEq, Int.reduceAdd, Int.reduceLE, Int.reduceLT, Int.reduceToNat, Int.reduceEq, Int.reduceBEq, Nat.reduceLeDiff, Nat.reduceLeDiff, UInt8.reduceToNat, leave_lvB, callD_cdB, lvK_lvB, lvP_lvB, h1, h2, br_eq, br_same]
  refine (lpX_code (c' := lp Tryz.f65 0) (by kernel_rfl)).trans ?_
  rw [lq65_0]
  try simp +contextual -implicitDefEqProofs (maxSteps := 10000000) only [↓wk0, ↓wk1, ↓wk2, ↓wk3, ↓wk4, ↓wk5, ↓wk6, ↓wk7, ↓wk8, ↓wk9, ↓wk10, ↓wk11, ↓wt0, ↓wt1, ↓wt2, ↓wt3, ↓lv65, ↓fz65, ↓reduceIte, wu0, wu1, Nat.reduceEqDiff, Nat.reduceLT, Nat.reduceAdd, Nat.reduceMul, Nat.reduceSub, Nat.reduceDiv, reduceCtorEq, Int.reduceAdd, Int.reduceLE, Int.reduceLT, Int.reduceToNat, Int.reduceEq, Int.reduceBEq, Nat.reduceLeDiff, Nat.reduceLeDiff, UInt8.reduceToNat, leave_lvB, callD_cdB, lvK_lvB, lvP_lvB, h1, h2, br_eq, br_same]
  unfold lpN
  conv => lhs; arg 2; whnf
  simp +contextual -implicitDefEqProofs (maxSteps := 10000000) only [↓wk0, ↓wk1, ↓wk2, ↓wk3, ↓wk4, ↓wk5, ↓wk6, ↓wk7, ↓wk8, ↓wk9, ↓wk10, ↓wk11, ↓wt0, ↓wt1, ↓wt2, ↓wt3, ↓lv65, ↓fz65, ↓reduceIte, wu0, wu1, Nat.reduceEqDiff, Nat.reduceLT, Nat.reduceAdd, Nat.reduceMul, Nat.reduceSub, Nat.reduceDiv, reduceCtorEq, Int.reduceAdd, Int.reduceLE, Int.reduceLT, Int.reduceToNat, Int.reduceEq, Int.reduceBEq, Nat.reduceLeDiff, Nat.reduceLeDiff, UInt8.reduceToNat, leave_lvB, callD_cdB, lvK_lvB, lvP_lvB, h1, h2, lq65_0, br_eq, br_same]
  unfold lpN
  conv => lhs; arg 2; whnf
  simp +contextual -implicitDefEqProofs (maxSteps := 10000000) only [↓wk0, ↓wk1, ↓wk2, ↓wk3, ↓wk4, ↓wk5, ↓wk6, ↓wk7, ↓wk8, ↓wk9, ↓wk10, ↓wk11, ↓wt0, ↓wt1, ↓wt2, ↓wt3, ↓lv65, ↓fz65, ↓reduceIte, wu0, wu1, Nat.reduceEqDiff, Nat.reduceLT, Nat.reduceAdd, Nat.reduceMul, Nat.reduceSub, Nat.reduceDiv, reduceCtorEq, Int.reduceAdd, Int.reduceLE, Int.reduceLT, Int.reduceToNat, Int.reduceEq, Int.reduceBEq, Nat.reduceLeDiff, Nat.reduceLeDiff, UInt8.reduceToNat, leave_lvB, callD_cdB, lvK_lvB, lvP_lvB, h1, h2, lq65_0, br_eq, br_same]
  unfold lpN
  conv => lhs; arg 2; whnf
  simp +contextual -implicitDefEqProofs (maxSteps := 10000000) only [↓wk0, ↓wk1, ↓wk2, ↓wk3, ↓wk4, ↓wk5, ↓wk6, ↓wk7, ↓wk8, ↓wk9, ↓wk10, ↓wk11, ↓wt0, ↓wt1, ↓wt2, ↓wt3, ↓lv65, ↓fz65, ↓reduceIte, wu0, wu1, Nat.reduceEqDiff, Nat.reduceLT, Nat.reduceAdd, Nat.reduceMul, Nat.reduceSub, Nat.reduceDiv, reduceCtorEq, Int.reduceAdd, Int.reduceLE, Int.reduceLT, Int.reduceToNat, Int.reduceEq, Int.reduceBEq, Nat.reduceLeDiff, Nat.reduceLeDiff, UInt8.reduceToNat, leave_lvB, callD_cdB, lvK_lvB, lvP_lvB, h1, h2, lq65_0, br_eq, br_same]
theorem run65b {a b : Int} (ha : isI a = true) (hb : isI b = false) : evW 65 [.row 0 0 2, .row 1 0 2, .fn 32 []] [.arr 38 5 [tc 3 0, tc 3 0], .arr 33 4 [vc 3 a (.sl 1 []), vc 3 b (.sl 1 [])]] = some (.ret (.bool false), [.arr 38 5 [tc 3 0, tc 3 0], .arr 33 4 [vc 3 a (.sl 1 []), vc 3 b (.sl 1 [])]]) := by
  have h1 := run32i (n := a)
  have h2 := run32i (n := b)
  rw [ha] at h1
  rw [hb] at h2
  rw [w65 rfl]
  conv => lhs; arg 2; whnf
  simp +contextual -implicitDefEqProofs (maxSteps := 10000000) only [↓wk0, ↓wk1, ↓wk2, ↓wk3, ↓wk4, ↓wk5, ↓wk6, ↓wk7, ↓wk8, ↓wk9, ↓wk10, ↓wk11, ↓wt0, ↓wt1, ↓wt2, ↓wt3, ↓lv65, ↓fz65, ↓reduceIte, wu0, wu1, Nat.reduceEqDiff, Nat.reduceLT, Nat.reduceAdd, Nat.reduceMul, Nat.reduceSub, Nat.reduceDiv, reduceCtorEq, Int.reduceAdd, Int.reduceLE, Int.reduceLT, Int.reduceToNat, Int.reduceEq, Int.reduceBEq, Nat.reduceLeDiff, Nat.reduceLeDiff, UInt8.reduceToNat, leave_lvB, callD_cdB, lvK_lvB, lvP_lvB, h1, h2, br_eq, br_same]
  refine (lpX_code (c' := lp Tryz.f65 0) (by kernel_rfl)).trans ?_
  rw [lq65_0]
  try simp +contextual -implicitDefEqProofs (maxSteps := 10000000) only [↓wk0, ↓wk1, ↓wk2, ↓wk3, ↓wk4, ↓wk5, ↓wk6, ↓wk7, ↓wk8, ↓wk9, ↓wk10, ↓wk11, ↓wt0, ↓wt1, ↓wt2, ↓wt3, ↓lv65, ↓fz65, ↓reduceIte, wu0, wu1, Nat.reduceEqDiff, Nat.reduceLT, Nat.reduceAdd, Nat.reduceMul, Nat.reduceSub, Nat.reduceDiv, reduceCtorEq, Int.reduceAdd, Int.reduceLE, Int.reduceLT, Int.reduceToNat, Int.reduceEq, Int.reduceBEq, Nat.reduceLeDiff, Nat.reduceLeDiff, UInt8.reduceToNat, leave_lvB, callD_cdB, lvK_lvB, lvP_lvB, h1, h2, br_eq, br_same]
  unfold lpN
  conv => lhs; arg 2; whnf
  simp +contextual -implicitDefEqProofs (maxSteps := 10000000) only [↓wk0, ↓wk1, ↓wk2, ↓wk3, ↓wk4, ↓wk5, ↓wk6, ↓wk7, ↓wk8, ↓wk9, ↓wk10, ↓wk11, ↓wt0, ↓wt1, ↓wt2, ↓wt3, ↓lv65, ↓fz65, ↓reduceIte, wu0, wu1, Nat.reduceEqDiff, Nat.reduceLT, Nat.reduceAdd, Nat.reduceMul, Nat.reduceSub, Nat.reduceDiv, reduceCtorEq, Int.reduceAdd, Int.reduceLE, Int.reduceLT, Int.reduceToNat, Int.reduceEq, Int.reduceBEq, Nat.reduceLeDiff, Nat.reduceLeDiff, UInt8.reduceToNat, leave_lvB, callD_cdB, lvK_lvB, lvP_lvB, h1, h2, lq65_0, br_eq, br_same]
  unfold lpN
  conv => lhs; arg 2; whnf
  simp +contextual -implicitDefEqProofs (maxSteps := 10000000) only [↓wk0, ↓wk1, ↓wk2, ↓wk3, ↓wk4, ↓wk5, ↓wk6, ↓wk7, ↓wk8, ↓wk9, ↓wk10, ↓wk11, ↓wt0, ↓wt1, ↓wt2, ↓wt3, ↓lv65, ↓fz65, ↓reduceIte, wu0, wu1, Nat.reduceEqDiff, Nat.reduceLT, Nat.reduceAdd, Nat.reduceMul, Nat.reduceSub, Nat.reduceDiv, reduceCtorEq, Int.reduceAdd, Int.reduceLE, Int.reduceLT, Int.reduceToNat, Int.reduceEq, Int.reduceBEq, Nat.reduceLeDiff, Nat.reduceLeDiff, UInt8.reduceToNat, leave_lvB, callD_cdB, lvK_lvB, lvP_lvB, h1, h2, lq65_0, br_eq, br_same]
theorem run65a {a b : Int} (ha : isI a = false) : evW 65 [.row 0 0 2, .row 1 0 2, .fn 32 []] [.arr 38 5 [tc 3 0, tc 3 0], .arr 33 4 [vc 3 a (.sl 1 []), vc 3 b (.sl 1 [])]] = some (.ret (.bool false), [.arr 38 5 [tc 3 0, tc 3 0], .arr 33 4 [vc 3 a (.sl 1 []), vc 3 b (.sl 1 [])]]) := by
  have h1 := run32i (n := a)
  rw [ha] at h1
  rw [w65 rfl]
  conv => lhs; arg 2; whnf
  simp +contextual -implicitDefEqProofs (maxSteps := 10000000) only [↓wk0, ↓wk1, ↓wk2, ↓wk3, ↓wk4, ↓wk5, ↓wk6, ↓wk7, ↓wk8, ↓wk9, ↓wk10, ↓wk11, ↓wt0, ↓wt1, ↓wt2, ↓wt3, ↓lv65, ↓fz65, ↓reduceIte, wu0, wu1, Nat.reduceEqDiff, Nat.reduceLT, Nat.reduceAdd, Nat.reduceMul, Nat.reduceSub, Nat.reduceDiv, reduceCtorEq, Int.reduceAdd, Int.reduceLE, Int.reduceLT, Int.reduceToNat, Int.reduceEq, Int.reduceBEq, Nat.reduceLeDiff, Nat.reduceLeDiff, UInt8.reduceToNat, leave_lvB, callD_cdB, lvK_lvB, lvP_lvB, h1, br_eq, br_same]
  refine (lpX_code (c' := lp Tryz.f65 0) (by kernel_rfl)).trans ?_
  rw [lq65_0]
  try simp +contextual -implicitDefEqProofs (maxSteps := 10000000) only [↓wk0, ↓wk1, ↓wk2, ↓wk3, ↓wk4, ↓wk5, ↓wk6, ↓wk7, ↓wk8, ↓wk9, ↓wk10, ↓wk11, ↓wt0, ↓wt1, ↓wt2, ↓wt3, ↓lv65, ↓fz65, ↓reduceIte, wu0, wu1, Nat.reduceEqDiff, Nat.reduceLT, Nat.reduceAdd, Nat.reduceMul, Nat.reduceSub, Nat.reduceDiv, reduceCtorEq, Int.reduceAdd, Int.reduceLE, Int.reduceLT, Int.reduceToNat, Int.reduceEq, Int.reduceBEq, Nat.reduceLeDiff, Nat.reduceLeDiff, UInt8.reduceToNat, leave_lvB, callD_cdB, lvK_lvB, lvP_lvB, h1, br_eq, br_same]
  unfold lpN
  conv => lhs; arg 2; whnf
  simp +contextual -implicitDefEqProofs (maxSteps := 10000000) only [↓wk0, ↓wk1, ↓wk2, ↓wk3, ↓wk4, ↓wk5, ↓wk6, ↓wk7, ↓wk8, ↓wk9, ↓wk10, ↓wk11, ↓wt0, ↓wt1, ↓wt2, ↓wt3, ↓lv65, ↓fz65, ↓reduceIte, wu0, wu1, Nat.reduceEqDiff, Nat.reduceLT, Nat.reduceAdd, Nat.reduceMul, Nat.reduceSub, Nat.reduceDiv, reduceCtorEq, Int.reduceAdd, Int.reduceLE, Int.reduceLT, Int.reduceToNat, Int.reduceEq, Int.reduceBEq, Nat.reduceLeDiff, Nat.reduceLeDiff, UInt8.reduceToNat, leave_lvB, callD_cdB, lvK_lvB, lvP_lvB, h1, lq65_0, br_eq, br_same]
end Go.Proofs.YtdhcgankmhpgeaaGreat.M
