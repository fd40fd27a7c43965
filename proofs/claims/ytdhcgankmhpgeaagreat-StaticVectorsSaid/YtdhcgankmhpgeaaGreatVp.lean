import Derived.Test.YtdhcgankmhpgeaaGreatVo
set_option linter.unusedSectionVars false
namespace Go.Proofs.YtdhcgankmhpgeaaGreat.M
open Go
set_option linter.unusedSimpArgs false
set_option linter.unusedVariables false
set_option maxRecDepth 100000
set_option maxHeartbeats 4000000
attribute [local congr] br_congr ob2_congr cnd_congr gdK_congr ob_congr clK_congr finK_congr reg_congr pkK_congr kTK_congr dlT_congr gck_congr iff2_congr sel_congr dPn_congr apJ_congr nmK_congr kTo_congr fzO_congr rcK_congr lvB_congr crK_congr cdB_congr
theorem run53b {k n : Int} : ∀ {ys : List Int} (h : ys.length ≤ 1000), evW 53 [vl k n (bitsA ys)] [] = some (.ret (vl k n (bitsA ys)), [])
  | [], _ => run53n
  | y :: ys, h => run53c (by simp at h; omega)
theorem run53z {k n : Int} : evW 53 [vl k n (.sl 1 [])] [] = some (.ret (vl k n (.sl 1 [])), []) := run53n
theorem isP_le {xs : List Int} (h : isP xs = true) : 1 ≤ (xs.length : Int) ∧ (xs.length : Int) ≤ 64 := by
  simp [isP] at h
  omega
theorem ofL_length (k : Int) : ∀ (n i : Nat) (xs : List Int), (ofL k n i xs).length = xs.length
  | 0, _, _ => rfl
  | n + 1, i, xs => by
    rw [ofL, ofL_length k n]
    simp
theorem cmpF_length (op : Int → Int → Int) (xs bs : List Int) : (cmpF op xs bs).length = xs.length := by
  unfold cmpF br
  split <;> simp [ofL_length]
theorem run23add {xs bs : List Int} (hx : isP xs = true) (hb : isP bs = true) (hl : xs.length = bs.length) : evW 23 [.str [43], .row 0 0 2, .row 1 0 2] [.arr 33 4 [vn xs, vn bs], .arr 38 5 [tc 4 xs.length, tc 4 xs.length]] = some (.ret (.tup [vl 4 0 (bitsA (cmpF (fun x y => IntKind.u64.wrap (x + y)) xs bs)), tyA 4 xs.length, okE]), [.arr 33 4 [vn xs, vn bs], .arr 38 5 [tc 4 xs.length, tc 4 xs.length]]) := by
  obtain ⟨l1, l2⟩ := isP_le hx
  have h65 := run65v hx hb hl
  have h74 := run74add (n := 0) l1 l2
  have h75 := run75add hx hb hl
  have h53 := run53b (k := 4) (n := 0) (ys := (cmpF (fun x y => IntKind.u64.wrap (x + y)) xs bs)) (by rw [cmpF_length]; omega)
  rw [w23 rfl]
  conv => lhs; arg 2; whnf
  simp +contextual -implicitDefEqProofs (maxSteps := 10000000) only [↓wk0, ↓wk1, ↓wk2, ↓wk3, ↓wk4, ↓wk5, ↓wk6, ↓wk7, ↓wk8, ↓wk9, ↓wk10, ↓wk11, ↓wt0, ↓wt1, ↓wt2, ↓wt3, ↓lv23, ↓fz23, ↓tbr23, ↓reduceIte, wu0, wu1, Nat.reduceEqDiff, Nat.reduceLT, Nat.reduceAdd, Nat.reduceMul, Nat.reduceSub, Nat.reduceDiv, reduceCtorEq, Int.reduceAdd, Int.reduceLE, Int.reduceLT, Int.reduceToNat, Int.reduceEq, Int.reduceBEq, Nat.reduceLeDiff, Nat.reduceLeDiff, UInt8.reduceToNat, leave_lvB, callD_cdB, lvK_lvB, lvP_lvB, h65, run72add, run73add, h74, h75, h53, run76, br_eq, br_same]
theorem run23sub {xs bs : List Int} (hx : isP xs = true) (hb : isP bs = true) (hl : xs.length = bs.length) : evW 23 [.str [45], .row 0 0 2, .row 1 0 2] [.arr 33 4 [vn xs, vn bs], .arr 38 5 [tc 4 xs.length, tc 4 xs.length]] = some (.ret (.tup [vl 4 0 (bitsA (cmpF (fun x y => IntKind.u64.wrap (x - y)) xs bs)), tyA 4 xs.length, okE]), [.arr 33 4 [vn xs, vn bs], .arr 38 5 [tc 4 xs.length, tc 4 xs.length]]) := by
  obtain ⟨l1, l2⟩ := isP_le hx
  have h65 := run65v hx hb hl
  have h74 := run74sub (n := 0) l1 l2
  have h75 := run75sub hx hb hl
  have h53 := run53b (k := 4) (n := 0) (ys := (cmpF (fun x y => IntKind.u64.wrap (x - y)) xs bs)) (by rw [cmpF_length]; omega)
  rw [w23 rfl]
  conv => lhs; arg 2; whnf
  simp +contextual -implicitDefEqProofs (maxSteps := 10000000) only [↓wk0, ↓wk1, ↓wk2, ↓wk3, ↓wk4, ↓wk5, ↓wk6, ↓wk7, ↓wk8, ↓wk9, ↓wk10, ↓wk11, ↓wt0, ↓wt1, ↓wt2, ↓wt3, ↓lv23, ↓fz23, ↓tbr23, ↓reduceIte, wu0, wu1, Nat.reduceEqDiff, Nat.reduceLT, Nat.reduceAdd, Nat.reduceMul, Nat.reduceSub, Nat.reduceDiv, reduceCtorEq, Int.reduceAdd, Int.reduceLE, Int.reduceLT, Int.reduceToNat, Int.reduceEq, Int.reduceBEq, Nat.reduceLeDiff, Nat.reduceLeDiff, UInt8.reduceToNat, leave_lvB, callD_cdB, lvK_lvB, lvP_lvB, h65, run72sub, run73sub, h74, h75, h53, run76, br_eq, br_same]
theorem run23mul {xs bs : List Int} (hx : isP xs = true) (hb : isP bs = true) (hl : xs.length = bs.length) : evW 23 [.str [42], .row 0 0 2, .row 1 0 2] [.arr 33 4 [vn xs, vn bs], .arr 38 5 [tc 4 xs.length, tc 4 xs.length]] = some (.ret (.tup [vl 4 0 (bitsA (cmpF (fun x y => IntKind.u64.wrap (x * y)) xs bs)), tyA 4 xs.length, okE]), [.arr 33 4 [vn xs, vn bs], .arr 38 5 [tc 4 xs.length, tc 4 xs.length]]) := by
  obtain ⟨l1, l2⟩ := isP_le hx
  have h65 := run65v hx hb hl
  have h74 := run74mul (n := 0) l1 l2
  have h75 := run75mul hx hb hl
  have h53 := run53b (k := 4) (n := 0) (ys := (cmpF (fun x y => IntKind.u64.wrap (x * y)) xs bs)) (by rw [cmpF_length]; omega)
  rw [w23 rfl]
  conv => lhs; arg 2; whnf
  simp +contextual -implicitDefEqProofs (maxSteps := 10000000) only [↓wk0, ↓wk1, ↓wk2, ↓wk3, ↓wk4, ↓wk5, ↓wk6, ↓wk7, ↓wk8, ↓wk9, ↓wk10, ↓wk11, ↓wt0, ↓wt1, ↓wt2, ↓wt3, ↓lv23, ↓fz23, ↓tbr23, ↓reduceIte, wu0, wu1, Nat.reduceEqDiff, Nat.reduceLT, Nat.reduceAdd, Nat.reduceMul, Nat.reduceSub, Nat.reduceDiv, reduceCtorEq, Int.reduceAdd, Int.reduceLE, Int.reduceLT, Int.reduceToNat, Int.reduceEq, Int.reduceBEq, Nat.reduceLeDiff, Nat.reduceLeDiff, UInt8.reduceToNat, leave_lvB, callD_cdB, lvK_lvB, lvP_lvB, h65, run72mul, run73mul, h74, h75, h53, run76, br_eq, br_same]
theorem run23less {xs bs : List Int} (hx : isP xs = true) (hb : isP bs = true) (hl : xs.length = bs.length) : evW 23 [.str [60], .row 0 0 2, .row 1 0 2] [.arr 33 4 [vn xs, vn bs], .arr 38 5 [tc 4 xs.length, tc 4 xs.length]] = some (.ret (.tup [vl 2 (br (lessF xs bs && (knownB xs && knownB bs)) 1 0) (.sl 1 []), tyA 2 0, okE]), [.arr 33 4 [vn xs, vn bs], .arr 38 5 [tc 4 xs.length, tc 4 xs.length]]) := by
  obtain ⟨l1, l2⟩ := isP_le hx
  have h65 := run65v hx hb hl
  have h74 := run74less (n := 0) l1 l2
  have h75 := run75less hx hb hl
  have h53 := run53z (k := 2) (n := br (lessF xs bs && (knownB xs && knownB bs)) 1 0)
  rw [w23 rfl]
  conv => lhs; arg 2; whnf
  simp +contextual -implicitDefEqProofs (maxSteps := 10000000) only [↓wk0, ↓wk1, ↓wk2, ↓wk3, ↓wk4, ↓wk5, ↓wk6, ↓wk7, ↓wk8, ↓wk9, ↓wk10, ↓wk11, ↓wt0, ↓wt1, ↓wt2, ↓wt3, ↓lv23, ↓fz23, ↓tbr23, ↓reduceIte, wu0, wu1, Nat.reduceEqDiff, Nat.reduceLT, Nat.reduceAdd, Nat.reduceMul, Nat.reduceSub, Nat.reduceDiv, reduceCtorEq, Int.reduceAdd, Int.reduceLE, Int.reduceLT, Int.reduceToNat, Int.reduceEq, Int.reduceBEq, Nat.reduceLeDiff, Nat.reduceLeDiff, UInt8.reduceToNat, leave_lvB, callD_cdB, lvK_lvB, lvP_lvB, h65, run72less, run73less, h74, h75, h53, run76, br_eq, br_same]
theorem run23eqt {xs bs : List Int} (hx : isP xs = true) (hb : isP bs = true) (hl : xs.length = bs.length) (he : eqB xs bs = true) : evW 23 [.str [61], .row 0 0 2, .row 1 0 2] [.arr 33 4 [vn xs, vn bs], .arr 38 5 [tc 4 xs.length, tc 4 xs.length]] = some (.ret (.tup [vl 2 1 (.sl 1 []), tyA 2 0, okE]), [.arr 33 4 [vn xs, vn bs], .arr 38 5 [tc 4 xs.length, tc 4 xs.length]]) := by
  obtain ⟨l1, l2⟩ := isP_le hx
  have h65 := run65v hx hb hl
  have h74 := run74eq (n := 0) l1 l2
  have h75 := run75eqt hx hb hl he
  have h53 := run53z (k := 2) (n := 1)
  rw [w23 rfl]
  conv => lhs; arg 2; whnf
  simp +contextual -implicitDefEqProofs (maxSteps := 10000000) only [↓wk0, ↓wk1, ↓wk2, ↓wk3, ↓wk4, ↓wk5, ↓wk6, ↓wk7, ↓wk8, ↓wk9, ↓wk10, ↓wk11, ↓wt0, ↓wt1, ↓wt2, ↓wt3, ↓lv23, ↓fz23, ↓tbr23, ↓reduceIte, wu0, wu1, Nat.reduceEqDiff, Nat.reduceLT, Nat.reduceAdd, Nat.reduceMul, Nat.reduceSub, Nat.reduceDiv, reduceCtorEq, Int.reduceAdd, Int.reduceLE, Int.reduceLT, Int.reduceToNat, Int.reduceEq, Int.reduceBEq, Nat.reduceLeDiff, Nat.reduceLeDiff, UInt8.reduceToNat, leave_lvB, callD_cdB, lvK_lvB, lvP_lvB, h65, run72eq, run73eq, h74, h75, h53, run76, br_eq, br_same]
theorem run23eqf {xs bs : List Int} (hx : isP xs = true) (hb : isP bs = true) (hl : xs.length = bs.length) (he : eqB xs bs = false) : evW 23 [.str [61], .row 0 0 2, .row 1 0 2] [.arr 33 4 [vn xs, vn bs], .arr 38 5 [tc 4 xs.length, tc 4 xs.length]] = some (.ret (.tup [vl 2 0 (.sl 1 []), tyA 2 0, okE]), [.arr 33 4 [vn xs, vn bs], .arr 38 5 [tc 4 xs.length, tc 4 xs.length]]) := by
  obtain ⟨l1, l2⟩ := isP_le hx
  have h65 := run65v hx hb hl
  have h74 := run74eq (n := 0) l1 l2
  have h75 := run75eqf hx hb hl he
  have h53 := run53z (k := 2) (n := 0)
  rw [w23 rfl]
  conv => lhs; arg 2; whnf
  simp +contextual -implicitDefEqProofs (maxSteps := 10000000) only [↓wk0, ↓wk1, ↓wk2, ↓wk3, ↓wk4, ↓wk5, ↓wk6, ↓wk7, ↓wk8, ↓wk9, ↓wk10, ↓wk11, ↓wt0, ↓wt1, ↓wt2, ↓wt3, ↓lv23, ↓fz23, ↓tbr23, ↓reduceIte, wu0, wu1, Nat.reduceEqDiff, Nat.reduceLT, Nat.reduceAdd, Nat.reduceMul, Nat.reduceSub, Nat.reduceDiv, reduceCtorEq, Int.reduceAdd, Int.reduceLE, Int.reduceLT, Int.reduceToNat, Int.reduceEq, Int.reduceBEq, Nat.reduceLeDiff, Nat.reduceLeDiff, UInt8.reduceToNat, leave_lvB, callD_cdB, lvK_lvB, lvP_lvB, h65, run72eq, run73eq, h74, h75, h53, run76, br_eq, br_same]
theorem run23net {xs bs : List Int} (hx : isP xs = true) (hb : isP bs = true) (hl : xs.length = bs.length) (he : eqB xs bs = true) : evW 23 [.str [47, 61], .row 0 0 2, .row 1 0 2] [.arr 33 4 [vn xs, vn bs], .arr 38 5 [tc 4 xs.length, tc 4 xs.length]] = some (.ret (.tup [vl 2 0 (.sl 1 []), tyA 2 0, okE]), [.arr 33 4 [vn xs, vn bs], .arr 38 5 [tc 4 xs.length, tc 4 xs.length]]) := by
  obtain ⟨l1, l2⟩ := isP_le hx
  have h65 := run65v hx hb hl
  have h74 := run74ne (n := 0) l1 l2
  have h75 := run75net hx hb hl he
  have h53 := run53z (k := 2) (n := 0)
  rw [w23 rfl]
  conv => lhs; arg 2; whnf
  simp +contextual -implicitDefEqProofs (maxSteps := 10000000) only [↓wk0, ↓wk1, ↓wk2, ↓wk3, ↓wk4, ↓wk5, ↓wk6, ↓wk7, ↓wk8, ↓wk9, ↓wk10, ↓wk11, ↓wt0, ↓wt1, ↓wt2, ↓wt3, ↓lv23, ↓fz23, ↓tbr23, ↓reduceIte, wu0, wu1, Nat.reduceEqDiff, Nat.reduceLT, Nat.reduceAdd, Nat.reduceMul, Nat.reduceSub, Nat.reduceDiv, reduceCtorEq, Int.reduceAdd, Int.reduceLE, Int.reduceLT, Int.reduceToNat, Int.reduceEq, Int.reduceBEq, Nat.reduceLeDiff, Nat.reduceLeDiff, UInt8.reduceToNat, leave_lvB, callD_cdB, lvK_lvB, lvP_lvB, h65, run72ne, run73ne, h74, h75, h53, run76, br_eq, br_same]
theorem run23nef {xs bs : List Int} (hx : isP xs = true) (hb : isP bs = true) (hl : xs.length = bs.length) (he : eqB xs bs = false) : evW 23 [.str [47, 61], .row 0 0 2, .row 1 0 2] [.arr 33 4 [vn xs, vn bs], .arr 38 5 [tc 4 xs.length, tc 4 xs.length]] = some (.ret (.tup [vl 2 1 (.sl 1 []), tyA 2 0, okE]), [.arr 33 4 [vn xs, vn bs], .arr 38 5 [tc 4 xs.length, tc 4 xs.length]]) := by
  obtain ⟨l1, l2⟩ := isP_le hx
  have h65 := run65v hx hb hl
  have h74 := run74ne (n := 0) l1 l2
  have h75 := run75nef hx hb hl he
  have h53 := run53z (k := 2) (n := 1)
  rw [w23 rfl]
  conv => lhs; arg 2; whnf
  simp +contextual -implicitDefEqProofs (maxSteps := 10000000) only [↓wk0, ↓wk1, ↓wk2, ↓wk3, ↓wk4, ↓wk5, ↓wk6, ↓wk7, ↓wk8, ↓wk9, ↓wk10, ↓wk11, ↓wt0, ↓wt1, ↓wt2, ↓wt3, ↓lv23, ↓fz23, ↓tbr23, ↓reduceIte, wu0, wu1, Nat.reduceEqDiff, Nat.reduceLT, Nat.reduceAdd, Nat.reduceMul, Nat.reduceSub, Nat.reduceDiv, reduceCtorEq, Int.reduceAdd, Int.reduceLE, Int.reduceLT, Int.reduceToNat, Int.reduceEq, Int.reduceBEq, Nat.reduceLeDiff, Nat.reduceLeDiff, UInt8.reduceToNat, leave_lvB, callD_cdB, lvK_lvB, lvP_lvB, h65, run72ne, run73ne, h74, h75, h53, run76, br_eq, br_same]
theorem run23iadd {a b : Int} (ha : isI a = true) (hb : isI b = true) (h : intE addI false a b = 0) : evW 23 [.str [43], .row 0 0 2, .row 1 0 2] [.arr 33 4 [vc 3 a (.sl 1 []), vc 3 b (.sl 1 [])], .arr 38 5 [tc 3 0, tc 3 0]] = some (.ret (.tup [vl 3 (intN addI false a b) (.sl 1 []), tyA 3 0, okE]), [.arr 33 4 [vc 3 a (.sl 1 []), vc 3 b (.sl 1 [])], .arr 38 5 [tc 3 0, tc 3 0]]) := by
  have h65 := run65i ha hb
  have h74 := run74iadd (n := b)
  have h75 := run75iadd h
  have h53 := run53z (k := 3) (n := intN addI false a b)
  rw [w23 rfl]
  conv => lhs; arg 2; whnf
  simp +contextual -implicitDefEqProofs (maxSteps := 10000000) only [↓wk0, ↓wk1, ↓wk2, ↓wk3, ↓wk4, ↓wk5, ↓wk6, ↓wk7, ↓wk8, ↓wk9, ↓wk10, ↓wk11, ↓wt0, ↓wt1, ↓wt2, ↓wt3, ↓lv23, ↓fz23, ↓tbr23, ↓reduceIte, wu0, wu1, Nat.reduceEqDiff, Nat.reduceLT, Nat.reduceAdd, Nat.reduceMul, Nat.reduceSub, Nat.reduceDiv, reduceCtorEq, Int.reduceAdd, Int.reduceLE, Int.reduceLT, Int.reduceToNat, Int.reduceEq, Int.reduceBEq, Nat.reduceLeDiff, Nat.reduceLeDiff, UInt8.reduceToNat, leave_lvB, callD_cdB, lvK_lvB, lvP_lvB, h65, run72add, run73add, h74, h75, h53, run76, br_eq, br_same]
theorem run23eadd {a b : Int} (ha : isI a = true) (hb : isI b = true) (h : (intE addI false a b == 0) = false) : evW 23 [.str [43], .row 0 0 2, .row 1 0 2] [.arr 33 4 [vc 3 a (.sl 1 []), vc 3 b (.sl 1 [])], .arr 38 5 [tc 3 0, tc 3 0]] = some (.ret (.tup [vl 0 0 (.sl 1 []), tyA 0 0, .int .i64 (intE addI false a b)]), [.arr 33 4 [vc 3 a (.sl 1 []), vc 3 b (.sl 1 [])], .arr 38 5 [tc 3 0, tc 3 0]]) := by
  have h65 := run65i ha hb
  have h74 := run74iadd (n := b)
  have h75 := run75eadd h
  rw [w23 rfl]
  conv => lhs; arg 2; whnf
  simp +contextual -implicitDefEqProofs (maxSteps := 10000000) only [↓wk0, ↓wk1, ↓wk2, ↓wk3, ↓wk4, ↓wk5, ↓wk6, ↓wk7, ↓wk8, ↓wk9, ↓wk10, ↓wk11, ↓wt0, ↓wt1, ↓wt2, ↓wt3, ↓lv23, ↓fz23, ↓tbr23, ↓reduceIte, wu0, wu1, Nat.reduceEqDiff, Nat.reduceLT, Nat.reduceAdd, Nat.reduceMul, Nat.reduceSub, Nat.reduceDiv, reduceCtorEq, Int.reduceAdd, Int.reduceLE, Int.reduceLT, Int.reduceToNat, Int.reduceEq, Int.reduceBEq, Nat.reduceLeDiff, Nat.reduceLeDiff, UInt8.reduceToNat, leave_lvB, callD_cdB, lvK_lvB, lvP_lvB, h65, run72add, run73add, h74, h75, h, br_eq, br_same]
theorem run23badd {a b : Int} (ha : isI a = true) (hb : isI b = false) : evW 23 [.str [43], .row 0 0 2, .row 1 0 2] [.arr 33 4 [vc 3 a (.sl 1 []), vc 3 b (.sl 1 [])], .arr 38 5 [tc 3 0, tc 3 0]] = some (.ret (.tup [vl 0 0 (.sl 1 []), tyA 0 0, .int .i64 2]), [.arr 33 4 [vc 3 a (.sl 1 []), vc 3 b (.sl 1 [])], .arr 38 5 [tc 3 0, tc 3 0]]) := by
  have h65 := run65b ha hb
  rw [w23 rfl]
  conv => lhs; arg 2; whnf
  simp +contextual -implicitDefEqProofs (maxSteps := 10000000) only [↓wk0, ↓wk1, ↓wk2, ↓wk3, ↓wk4, ↓wk5, ↓wk6, ↓wk7, ↓wk8, ↓wk9, ↓wk10, ↓wk11, ↓wt0, ↓wt1, ↓wt2, ↓wt3, ↓lv23, ↓fz23, ↓tbr23, ↓reduceIte, wu0, wu1, Nat.reduceEqDiff, Nat.reduceLT, Nat.reduceAdd, Nat.reduceMul, Nat.reduceSub, Nat.reduceDiv, reduceCtorEq, Int.reduceAdd, Int.reduceLE, Int.reduceLT, Int.reduceToNat, Int.reduceEq, Int.reduceBEq, Nat.reduceLeDiff, Nat.reduceLeDiff, UInt8.reduceToNat, leave_lvB, callD_cdB, lvK_lvB, lvP_lvB, h65, br_eq, br_same]
theorem run23aadd {a b : Int} (ha : isI a = false) : evW 23 [.str [43], .row 0 0 2, .row 1 0 2] [.arr 33 4 [vc 3 a (.sl 1 []), vc 3 b (.sl 1 [])], .arr 38 5 [tc 3 0, tc 3 0]] = some (.ret (.tup [vl 0 0 (.sl 1 []), tyA 0 0, .int .i64 2]), [.arr 33 4 [vc 3 a (.sl 1 []), vc 3 b (.sl 1 [])], .arr 38 5 [tc 3 0, tc 3 0]]) := by
  have h65 := run65a (b := b) ha
  rw [w23 rfl]
  conv => lhs; arg 2; whnf
  simp +contextual -implicitDefEqProofs (maxSteps := 10000000) only [↓wk0, ↓wk1, ↓wk2, ↓wk3, ↓wk4, ↓wk5, ↓wk6, ↓wk7, ↓wk8, ↓wk9, ↓wk10, ↓wk11, ↓wt0, ↓wt1, ↓wt2, ↓wt3, ↓lv23, ↓fz23, ↓tbr23, ↓reduceIte, wu0, wu1, Nat.reduceEqDiff, Nat.reduceLT, Nat.reduceAdd, Nat.reduceMul, Nat.reduceSub, Nat.reduceDiv, reduceCtorEq, Int.reduceAdd, Int.reduceLE, Int.reduceLT, Int.reduceToNat, Int.reduceEq, Int.reduceBEq, Nat.reduceLeDiff, Nat.reduceLeDiff, UInt8.reduceToNat, leave_lvB, callD_cdB, lvK_lvB, lvP_lvB, h65, br_eq, br_same]
theorem run23isub {a b : Int} (ha : isI a = true) (hb : isI b = true) (h : intE subI false a b = 0) : evW 23 [.str [45], .row 0 0 2, .row 1 0 2] [.arr 33 4 [vc 3 a (.sl 1 []), vc 3 b (.sl 1 [])], .arr 38 5 [tc 3 0, tc 3 0]] = some (.ret (.tup [vl 3 (intN subI false a b) (.sl 1 []), tyA 3 0, okE]), [.arr 33 4 [vc 3 a (.sl 1 []), vc 3 b (.sl 1 [])], .arr 38 5 [tc 3 0, tc 3 0]]) := by
  have h65 := run65i ha hb
  have h74 := run74isub (n := b)
  have h75 := run75isub h
  have h53 := run53z (k := 3) (n := intN subI false a b)
  rw [w23 rfl]
  conv => lhs; arg 2; whnf
  simp +contextual -implicitDefEqProofs (maxSteps := 10000000) only [↓wk0, ↓wk1, ↓wk2, ↓wk3, ↓wk4, ↓wk5, ↓wk6, ↓wk7, ↓wk8, ↓wk9, ↓wk10, ↓wk11, ↓wt0, ↓wt1, ↓wt2, ↓wt3, ↓lv23, ↓fz23, ↓tbr23, ↓reduceIte, wu0, wu1, Nat.reduceEqDiff, Nat.reduceLT, Nat.reduceAdd, Nat.reduceMul, Nat.reduceSub, Nat.reduceDiv, reduceCtorEq, Int.reduceAdd, Int.reduceLE, Int.reduceLT, Int.reduceToNat, Int.reduceEq, Int.reduceBEq, Nat.reduceLeDiff, Nat.reduceLeDiff, UInt8.reduceToNat, leave_lvB, callD_cdB, lvK_lvB, lvP_lvB, h65, run72sub, run73sub, h74, h75, h53, run76, br_eq, br_same]
theorem run23esub {a b : Int} (ha : isI a = true) (hb : isI b = true) (h : (intE subI false a b == 0) = false) : evW 23 [.str [45], .row 0 0 2, .row 1 0 2] [.arr 33 4 [vc 3 a (.sl 1 []), vc 3 b (.sl 1 [])], .arr 38 5 [tc 3 0, tc 3 0]] = some (.ret (.tup [vl 0 0 (.sl 1 []), tyA 0 0, .int .i64 (intE subI false a b)]), [.arr 33 4 [vc 3 a (.sl 1 []), vc 3 b (.sl 1 [])], .arr 38 5 [tc 3 0, tc 3 0]]) := by
  have h65 := run65i ha hb
  have h74 := run74isub (n := b)
  have h75 := run75esub h
  rw [w23 rfl]
  conv => lhs; arg 2; whnf
  simp +contextual -implicitDefEqProofs (maxSteps := 10000000) only [↓wk0, ↓wk1, ↓wk2, ↓wk3, ↓wk4, ↓wk5, ↓wk6, ↓wk7, ↓wk8, ↓wk9, ↓wk10, ↓wk11, ↓wt0, ↓wt1, ↓wt2, ↓wt3, ↓lv23, ↓fz23, ↓tbr23, ↓reduceIte, wu0, wu1, Nat.reduceEqDiff, Nat.reduceLT, Nat.reduceAdd, Nat.reduceMul, Nat.reduceSub, Nat.reduceDiv, reduceCtorEq, Int.reduceAdd, Int.reduceLE, Int.reduceLT, Int.reduceToNat, Int.reduceEq, Int.reduceBEq, Nat.reduceLeDiff, Nat.reduceLeDiff, UInt8.reduceToNat, leave_lvB, callD_cdB, lvK_lvB, lvP_lvB, h65, run72sub, run73sub, h74, h75, h, br_eq, br_same]
theorem run23bsub {a b : Int} (ha : isI a = true) (hb : isI b = false) : evW 23 [.str [45], .row 0 0 2, .row 1 0 2] [.arr 33 4 [vc 3 a (.sl 1 []), vc 3 b (.sl 1 [])], .arr 38 5 [tc 3 0, tc 3 0]] = some (.ret (.tup [vl 0 0 (.sl 1 []), tyA 0 0, .int .i64 2]), [.arr 33 4 [vc 3 a (.sl 1 []), vc 3 b (.sl 1 [])], .arr 38 5 [tc 3 0, tc 3 0]]) := by
  have h65 := run65b ha hb
  rw [w23 rfl]
  conv => lhs; arg 2; whnf
  simp +contextual -implicitDefEqProofs (maxSteps := 10000000) only [↓wk0, ↓wk1, ↓wk2, ↓wk3, ↓wk4, ↓wk5, ↓wk6, ↓wk7, ↓wk8, ↓wk9, ↓wk10, ↓wk11, ↓wt0, ↓wt1, ↓wt2, ↓wt3, ↓lv23, ↓fz23, ↓tbr23, ↓reduceIte, wu0, wu1, Nat.reduceEqDiff, Nat.reduceLT, Nat.reduceAdd, Nat.reduceMul, Nat.reduceSub, Nat.reduceDiv, reduceCtorEq, Int.reduceAdd, Int.reduceLE, Int.reduceLT, Int.reduceToNat, Int.reduceEq, Int.reduceBEq, Nat.reduceLeDiff, Nat.reduceLeDiff, UInt8.reduceToNat, leave_lvB, callD_cdB, lvK_lvB, lvP_lvB, h65, br_eq, br_same]
theorem run23asub {a b : Int} (ha : isI a = false) : evW 23 [.str [45], .row 0 0 2, .row 1 0 2] [.arr 33 4 [vc 3 a (.sl 1 []), vc 3 b (.sl 1 [])], .arr 38 5 [tc 3 0, tc 3 0]] = some (.ret (.tup [vl 0 0 (.sl 1 []), tyA 0 0, .int .i64 2]), [.arr 33 4 [vc 3 a (.sl 1 []), vc 3 b (.sl 1 [])], .arr 38 5 [tc 3 0, tc 3 0]]) := by
  have h65 := run65a (b := b) ha
  rw [w23 rfl]
  conv => lhs; arg 2; whnf
  simp +contextual -implicitDefEqProofs (maxSteps := 10000000) only [↓wk0, ↓wk1, ↓wk2, ↓wk3, ↓wk4, ↓wk5, ↓wk6, ↓wk7, ↓wk8, ↓wk9, ↓wk10, ↓wk11, ↓wt0, ↓wt1, ↓wt2, ↓wt3, ↓lv23, ↓fz23, ↓tbr23, ↓reduceIte, wu0, wu1, Nat.reduceEqDiff, Nat.reduceLT, Nat.reduceAdd, Nat.reduceMul, Nat.reduceSub, Nat.reduceDiv, reduceCtorEq, Int.reduceAdd, Int.reduceLE, Int.reduceLT, Int.reduceToNat, Int.reduceEq, Int.reduceBEq, Nat.reduceLeDiff, Nat.reduceLeDiff, UInt8.reduceToNat, leave_lvB, callD_cdB, lvK_lvB, lvP_lvB, h65, br_eq, br_same]
theorem run23imul {a b : Int} (ha : isI a = true) (hb : isI b = true) (h : intE mulI false a b = 0) : evW 23 [.str [42], .row 0 0 2, .row 1 0 2] [.arr 33 4 [vc 3 a (.sl 1 []), vc 3 b (.sl 1 [])], .arr 38 5 [tc 3 0, tc 3 0]] = some (.ret (.tup [vl 3 (intN mulI false a b) (.sl 1 []), tyA 3 0, okE]), [.arr 33 4 [vc 3 a (.sl 1 []), vc 3 b (.sl 1 [])], .arr 38 5 [tc 3 0, tc 3 0]]) := by
  have h65 := run65i ha hb
  have h74 := run74imul (n := b)
  have h75 := run75imul h
  have h53 := run53z (k := 3) (n := intN mulI false a b)
  rw [w23 rfl]
  conv => lhs; arg 2; whnf
  simp +contextual -implicitDefEqProofs (maxSteps := 10000000) only [↓wk0, ↓wk1, ↓wk2, ↓wk3, ↓wk4, ↓wk5, ↓wk6, ↓wk7, ↓wk8, ↓wk9, ↓wk10, ↓wk11, ↓wt0, ↓wt1, ↓wt2, ↓wt3, ↓lv23, ↓fz23, ↓tbr23, ↓reduceIte, wu0, wu1, Nat.reduceEqDiff, Nat.reduceLT, Nat.reduceAdd, Nat.reduceMul, Nat.reduceSub, Nat.reduceDiv, reduceCtorEq, Int.reduceAdd, Int.reduceLE, Int.reduceLT, Int.reduceToNat, Int.reduceEq, Int.reduceBEq, Nat.reduceLeDiff, Nat.reduceLeDiff, UInt8.reduceToNat, leave_lvB, callD_cdB, lvK_lvB, lvP_lvB, h65, run72mul, run73mul, h74, h75, h53, run76, br_eq, br_same]
theorem run23emul {a b : Int} (ha : isI a = true) (hb : isI b = true) (h : (intE mulI false a b == 0) = false) : evW 23 [.str [42], .row 0 0 2, .row 1 0 2] [.arr 33 4 [vc 3 a (.sl 1 []), vc 3 b (.sl 1 [])], .arr 38 5 [tc 3 0, tc 3 0]] = some (.ret (.tup [vl 0 0 (.sl 1 []), tyA 0 0, .int .i64 (intE mulI false a b)]), [.arr 33 4 [vc 3 a (.sl 1 []), vc 3 b (.sl 1 [])], .arr 38 5 [tc 3 0, tc 3 0]]) := by
  have h65 := run65i ha hb
  have h74 := run74imul (n := b)
  have h75 := run75emul h
  rw [w23 rfl]
  conv => lhs; arg 2; whnf
  simp +contextual -implicitDefEqProofs (maxSteps := 10000000) only [↓wk0, ↓wk1, ↓wk2, ↓wk3, ↓wk4, ↓wk5, ↓wk6, ↓wk7, ↓wk8, ↓wk9, ↓wk10, ↓wk11, ↓wt0, ↓wt1, ↓wt2, ↓wt3, ↓lv23, ↓fz23, ↓tbr23, ↓reduceIte, wu0, wu1, Nat.reduceEqDiff, Nat.reduceLT, Nat.reduceAdd, Nat.reduceMul, Nat.reduceSub, Nat.reduceDiv, reduceCtorEq, Int.reduceAdd, Int.reduceLE, Int.reduceLT, Int.reduceToNat, Int.reduceEq, Int.reduceBEq, Nat.reduceLeDiff, Nat.reduceLeDiff, UInt8.reduceToNat, leave_lvB, callD_cdB, lvK_lvB, lvP_lvB, h65, run72mul, run73mul, h74, h75, h, br_eq, br_same]
theorem run23bmul {a b : Int} (ha : isI a = true) (hb : isI b = false) : evW 23 [.str [42], .row 0 0 2, .row 1 0 2] [.arr 33 4 [vc 3 a (.sl 1 []), vc 3 b (.sl 1 [])], .arr 38 5 [tc 3 0, tc 3 0]] = some (.ret (.tup [vl 0 0 (.sl 1 []), tyA 0 0, .int .i64 2]), [.arr 33 4 [vc 3 a (.sl 1 []), vc 3 b (.sl 1 [])], .arr 38 5 [tc 3 0, tc 3 0]]) := by
  have h65 := run65b ha hb
  rw [w23 rfl]
  conv => lhs; arg 2; whnf
  simp +contextual -implicitDefEqProofs (maxSteps := 10000000) only [↓wk0, ↓wk1, ↓wk2, ↓wk3, ↓wk4, ↓wk5, ↓wk6, ↓wk7, ↓wk8, ↓wk9, ↓wk10, ↓wk11, ↓wt0, ↓wt1, ↓wt2, ↓wt3, ↓lv23, ↓fz23, ↓tbr23, ↓reduceIte, wu0, wu1, Nat.reduceEqDiff, Nat.reduceLT, Nat.reduceAdd, Nat.reduceMul, Nat.reduceSub, Nat.reduceDiv, reduceCtorEq, Int.reduceAdd, Int.reduceLE, Int.reduceLT, Int.reduceToNat, Int.reduceEq, Int.reduceBEq, Nat.reduceLeDiff, Nat.reduceLeDiff, UInt8.reduceToNat, leave_lvB, callD_cdB, lvK_lvB, lvP_lvB, h65, br_eq, br_same]
theorem run23amul {a b : Int} (ha : isI a = false) : evW 23 [.str [42], .row 0 0 2, .row 1 0 2] [.arr 33 4 [vc 3 a (.sl 1 []), vc 3 b (.sl 1 [])], .arr 38 5 [tc 3 0, tc 3 0]] = some (.ret (.tup [vl 0 0 (.sl 1 []), tyA 0 0, .int .i64 2]), [.arr 33 4 [vc 3 a (.sl 1 []), vc 3 b (.sl 1 [])], .arr 38 5 [tc 3 0, tc 3 0]]) := by
  have h65 := run65a (b := b) ha
  rw [w23 rfl]
  conv => lhs; arg 2; whnf
  simp +contextual -implicitDefEqProofs (maxSteps := 10000000) only [↓wk0, ↓wk1, ↓wk2, ↓wk3, ↓wk4, ↓wk5, ↓wk6, ↓wk7, ↓wk8, ↓wk9, ↓wk10, ↓wk11, ↓wt0, ↓wt1, ↓wt2, ↓wt3, ↓lv23, ↓fz23, ↓tbr23, ↓reduceIte, wu0, wu1, Nat.reduceEqDiff, Nat.reduceLT, Nat.reduceAdd, Nat.reduceMul, Nat.reduceSub, Nat.reduceDiv, reduceCtorEq, Int.reduceAdd, Int.reduceLE, Int.reduceLT, Int.reduceToNat, Int.reduceEq, Int.reduceBEq, Nat.reduceLeDiff, Nat.reduceLeDiff, UInt8.reduceToNat, leave_lvB, callD_cdB, lvK_lvB, lvP_lvB, h65, br_eq, br_same]
theorem run23idiv {a b : Int} (ha : isI a = true) (hb : isI b = true) (h : intE floorF true a b = 0) : evW 23 [.str [47], .row 0 0 2, .row 1 0 2] [.arr 33 4 [vc 3 a (.sl 1 []), vc 3 b (.sl 1 [])], .arr 38 5 [tc 3 0, tc 3 0]] = some (.ret (.tup [vl 3 (intN floorF true a b) (.sl 1 []), tyA 3 0, okE]), [.arr 33 4 [vc 3 a (.sl 1 []), vc 3 b (.sl 1 [])], .arr 38 5 [tc 3 0, tc 3 0]]) := by
  have h65 := run65i ha hb
  have h74 := run74idiv (n := b)
  have h75 := run75idiv h
  have h53 := run53z (k := 3) (n := intN floorF true a b)
  rw [w23 rfl]
  conv => lhs; arg 2; whnf
  simp +contextual -implicitDefEqProofs (maxSteps := 10000000) only [↓wk0, ↓wk1, ↓wk2, ↓wk3, ↓wk4, ↓wk5, ↓wk6, ↓wk7, ↓wk8, ↓wk9, ↓wk10, ↓wk11, ↓wt0, ↓wt1, ↓wt2, ↓wt3, ↓lv23, ↓fz23, ↓tbr23, ↓reduceIte, wu0, wu1, Nat.reduceEqDiff, Nat.reduceLT, Nat.reduceAdd, Nat.reduceMul, Nat.reduceSub, Nat.reduceDiv, reduceCtorEq, Int.reduceAdd, Int.reduceLE, Int.reduceLT, Int.reduceToNat, Int.reduceEq, Int.reduceBEq, Nat.reduceLeDiff, Nat.reduceLeDiff, UInt8.reduceToNat, leave_lvB, callD_cdB, lvK_lvB, lvP_lvB, h65, run72div, run73div, h74, h75, h53, run76, br_eq, br_same]
theorem run23ediv {a b : Int} (ha : isI a = true) (hb : isI b = true) (h : (intE floorF true a b == 0) = false) : evW 23 [.str [47], .row 0 0 2, .row 1 0 2] [.arr 33 4 [vc 3 a (.sl 1 []), vc 3 b (.sl 1 [])], .arr 38 5 [tc 3 0, tc 3 0]] = some (.ret (.tup [vl 0 0 (.sl 1 []), tyA 0 0, .int .i64 (intE floorF true a b)]), [.arr 33 4 [vc 3 a (.sl 1 []), vc 3 b (.sl 1 [])], .arr 38 5 [tc 3 0, tc 3 0]]) := by
  have h65 := run65i ha hb
  have h74 := run74idiv (n := b)
  have h75 := run75ediv h
  rw [w23 rfl]
  conv => lhs; arg 2; whnf
  simp +contextual -implicitDefEqProofs (maxSteps := 10000000) only [↓wk0, ↓wk1, ↓wk2, ↓wk3, ↓wk4, ↓wk5, ↓wk6, ↓wk7, ↓wk8, ↓wk9, ↓wk10, ↓wk11, ↓wt0, ↓wt1, ↓wt2, ↓wt3, ↓lv23, ↓fz23, ↓tbr23, ↓reduceIte, wu0, wu1, Nat.reduceEqDiff, Nat.reduceLT, Nat.reduceAdd, Nat.reduceMul, Nat.reduceSub, Nat.reduceDiv, reduceCtorEq, Int.reduceAdd, Int.reduceLE, Int.reduceLT, Int.reduceToNat, Int.reduceEq, Int.reduceBEq, Nat.reduceLeDiff, Nat.reduceLeDiff, UInt8.reduceToNat, leave_lvB, callD_cdB, lvK_lvB, lvP_lvB, h65, run72div, run73div, h74, h75, h, br_eq, br_same]
theorem run23bdiv {a b : Int} (ha : isI a = true) (hb : isI b = false) : evW 23 [.str [47], .row 0 0 2, .row 1 0 2] [.arr 33 4 [vc 3 a (.sl 1 []), vc 3 b (.sl 1 [])], .arr 38 5 [tc 3 0, tc 3 0]] = some (.ret (.tup [vl 0 0 (.sl 1 []), tyA 0 0, .int .i64 2]), [.arr 33 4 [vc 3 a (.sl 1 []), vc 3 b (.sl 1 [])], .arr 38 5 [tc 3 0, tc 3 0]]) := by
  have h65 := run65b ha hb
  rw [w23 rfl]
  conv => lhs; arg 2; whnf
  simp +contextual -implicitDefEqProofs (maxSteps := 10000000) only [↓wk0, ↓wk1, ↓wk2, ↓wk3, ↓wk4, ↓wk5, ↓wk6, ↓wk7, ↓wk8, ↓wk9, ↓wk10, ↓wk11, ↓wt0, ↓wt1, ↓wt2, ↓wt3, ↓lv23, ↓fz23, ↓tbr23, ↓reduceIte, wu0, wu1, Nat.reduceEqDiff, Nat.reduceLT, Nat.reduceAdd, Nat.reduceMul, Nat.reduceSub, Nat.reduceDiv, reduceCtorEq, Int.reduceAdd, Int.reduceLE, Int.reduceLT, Int.reduceToNat, Int.reduceEq, Int.reduceBEq, Nat.reduceLeDiff, Nat.reduceLeDiff, UInt8.reduceToNat, leave_lvB, callD_cdB, lvK_lvB, lvP_lvB, h65, br_eq, br_same]
theorem run23adiv {a b : Int} (ha : isI a = false) : evW 23 [.str [47], .row 0 0 2, .row 1 0 2] [.arr 33 4 [vc 3 a (.sl 1 []), vc 3 b (.sl 1 [])], .arr 38 5 [tc 3 0, tc 3 0]] = some (.ret (.tup [vl 0 0 (.sl 1 []), tyA 0 0, .int .i64 2]), [.arr 33 4 [vc 3 a (.sl 1 []), vc 3 b (.sl 1 [])], .arr 38 5 [tc 3 0, tc 3 0]]) := by
  have h65 := run65a (b := b) ha
  rw [w23 rfl]
  conv => lhs; arg 2; whnf
  simp +contextual -implicitDefEqProofs (maxSteps := 10000000) only [↓wk0, ↓wk1, ↓wk2, ↓wk3, ↓wk4, ↓wk5, ↓wk6, ↓wk7, ↓wk8, ↓wk9, ↓wk10, ↓wk11, ↓wt0, ↓wt1, ↓wt2, ↓wt3, ↓lv23, ↓fz23, ↓tbr23, ↓reduceIte, wu0, wu1, Nat.reduceEqDiff, Nat.reduceLT, Nat.reduceAdd, Nat.reduceMul, Nat.reduceSub, Nat.reduceDiv, reduceCtorEq, Int.reduceAdd, Int.reduceLE, Int.reduceLT, Int.reduceToNat, Int.reduceEq, Int.reduceBEq, Nat.reduceLeDiff, Nat.reduceLeDiff, UInt8.reduceToNat, leave_lvB, callD_cdB, lvK_lvB, lvP_lvB, h65, br_eq, br_same]
theorem run23imod {a b : Int} (ha : isI a = true) (hb : isI b = true) (h : intE modI true a b = 0) : evW 23 [.str [109, 111, 100], .row 0 0 2, .row 1 0 2] [.arr 33 4 [vc 3 a (.sl 1 []), vc 3 b (.sl 1 [])], .arr 38 5 [tc 3 0, tc 3 0]] = some (.ret (.tup [vl 3 (intN modI true a b) (.sl 1 []), tyA 3 0, okE]), [.arr 33 4 [vc 3 a (.sl 1 []), vc 3 b (.sl 1 [])], .arr 38 5 [tc 3 0, tc 3 0]]) := by
  have h65 := run65i ha hb
  have h74 := run74imod (n := b)
  have h75 := run75imod h
  have h53 := run53z (k := 3) (n := intN modI true a b)
  rw [w23 rfl]
  conv => lhs; arg 2; whnf
  simp +contextual -implicitDefEqProofs (maxSteps := 10000000) only [↓wk0, ↓wk1, ↓wk2, ↓wk3, ↓wk4, ↓wk5, ↓wk6, ↓wk7, ↓wk8, ↓wk9, ↓wk10, ↓wk11, ↓wt0, ↓wt1, ↓wt2, ↓wt3, ↓lv23, ↓fz23, ↓tbr23, ↓reduceIte, wu0, wu1, Nat.reduceEqDiff, Nat.reduceLT, Nat.reduceAdd, Nat.reduceMul, Nat.reduceSub, Nat.reduceDiv, reduceCtorEq, Int.reduceAdd, Int.reduceLE, Int.reduceLT, Int.reduceToNat, Int.reduceEq, Int.reduceBEq, Nat.reduceLeDiff, Nat.reduceLeDiff, UInt8.reduceToNat, leave_lvB, callD_cdB, lvK_lvB, lvP_lvB, h65, run72mod, run73mod, h74, h75, h53, run76, br_eq, br_same]
theorem run23emod {a b : Int} (ha : isI a = true) (hb : isI b = true) (h : (intE modI true a b == 0) = false) : evW 23 [.str [109, 111, 100], .row 0 0 2, .row 1 0 2] [.arr 33 4 [vc 3 a (.sl 1 []), vc 3 b (.sl 1 [])], .arr 38 5 [tc 3 0, tc 3 0]] = some (.ret (.tup [vl 0 0 (.sl 1 []), tyA 0 0, .int .i64 (intE modI true a b)]), [.arr 33 4 [vc 3 a (.sl 1 []), vc 3 b (.sl 1 [])], .arr 38 5 [tc 3 0, tc 3 0]]) := by
  have h65 := run65i ha hb
  have h74 := run74imod (n := b)
  have h75 := run75emod h
  rw [w23 rfl]
  conv => lhs; arg 2; whnf
  simp +contextual -implicitDefEqProofs (maxSteps := 10000000) only [↓wk0, ↓wk1, ↓wk2, ↓wk3, ↓wk4, ↓wk5, ↓wk6, ↓wk7, ↓wk8, ↓wk9, ↓wk10, ↓wk11, ↓wt0, ↓wt1, ↓wt2, ↓wt3, ↓lv23, ↓fz23, ↓tbr23, ↓reduceIte, wu0, wu1, Nat.reduceEqDiff, Nat.reduceLT, Nat.reduceAdd, Nat.reduceMul, Nat.reduceSub, Nat.reduceDiv, reduceCtorEq, Int.reduceAdd, Int.reduceLE, Int.reduceLT, Int.reduceToNat, Int.reduceEq, Int.reduceBEq, Nat.reduceLeDiff, Nat.reduceLeDiff, UInt8.reduceToNat, leave_lvB, callD_cdB, lvK_lvB, lvP_lvB, h65, run72mod, run73mod, h74, h75, h, br_eq, br_same]
theorem run23bmod {a b : Int} (ha : isI a = true) (hb : isI b = false) : evW 23 [.str [109, 111, 100], .row 0 0 2, .row 1 0 2] [.arr 33 4 [vc 3 a (.sl 1 []), vc 3 b (.sl 1 [])], .arr 38 5 [tc 3 0, tc 3 0]] = some (.ret (.tup [vl 0 0 (.sl 1 []), tyA 0 0, .int .i64 2]), [.arr 33 4 [vc 3 a (.sl 1 []), vc 3 b (.sl 1 [])], .arr 38 5 [tc 3 0, tc 3 0]]) := by
  have h65 := run65b ha hb
  rw [w23 rfl]
  conv => lhs; arg 2; whnf
  simp +contextual -implicitDefEqProofs (maxSteps := 10000000) only [↓wk0, ↓wk1, ↓wk2, ↓wk3, ↓wk4, ↓wk5, ↓wk6, ↓wk7, ↓wk8, ↓wk9, ↓wk10, ↓wk11, ↓wt0, ↓wt1, ↓wt2, ↓wt3, ↓lv23, ↓fz23, ↓tbr23, ↓reduceIte, wu0, wu1, Nat.reduceEqDiff, Nat.reduceLT, Nat.reduceAdd, Nat.reduceMul, Nat.reduceSub, Nat.reduceDiv, reduceCtorEq, Int.reduceAdd, Int.reduceLE, Int.reduceLT, Int.reduceToNat, Int.reduceEq, Int.reduceBEq, Nat.reduceLeDiff, Nat.reduceLeDiff, UInt8.reduceToNat, leave_lvB, callD_cdB, lvK_lvB, lvP_lvB, h65, br_eq, br_same]
theorem run23amod {a b : Int} (ha : isI a = false) : evW 23 [.str [109, 111, 100], .row 0 0 2, .row 1 0 2] [.arr 33 4 [vc 3 a (.sl 1 []), vc 3 b (.sl 1 [])], .arr 38 5 [tc 3 0, tc 3 0]] = some (.ret (.tup [vl 0 0 (.sl 1 []), tyA 0 0, .int .i64 2]), [.arr 33 4 [vc 3 a (.sl 1 []), vc 3 b (.sl 1 [])], .arr 38 5 [tc 3 0, tc 3 0]]) := by
  have h65 := run65a (b := b) ha
  rw [w23 rfl]
  conv => lhs; arg 2; whnf
  simp +contextual -implicitDefEqProofs (maxSteps := 10000000) only [↓wk0, ↓wk1, ↓wk2, ↓wk3, ↓wk4, ↓wk5, ↓wk6, ↓wk7, ↓wk8, ↓wk9, ↓wk10, ↓wk11, ↓wt0, ↓wt1, ↓wt2, ↓wt3, ↓lv23, ↓fz23, ↓tbr23, ↓reduceIte, wu0, wu1, Nat.reduceEqDiff, Nat.reduceLT, Nat.reduceAdd, Nat.reduceMul, Nat.reduceSub, Nat.reduceDiv, reduceCtorEq, Int.reduceAdd, Int.reduceLE, Int.reduceLT, Int.reduceToNat, Int.reduceEq, Int.reduceBEq, Nat.reduceLeDiff, Nat.reduceLeDiff, UInt8.reduceToNat, leave_lvB, callD_cdB, lvK_lvB, lvP_lvB, h65, br_eq, br_same]
end Go.Proofs.YtdhcgankmhpgeaaGreat.M
namespace Go.Proofs.YtdhcgankmhpgeaaGreat.M
open Go
set_option linter.unusedSimpArgs false
set_option linter.unusedVariables false
set_option maxRecDepth 100000
set_option maxHeartbeats 4000000
attribute [local congr] br_congr ob2_congr cnd_congr gdK_congr ob_congr clK_congr finK_congr reg_congr pkK_congr kTK_congr dlT_congr gck_congr iff2_congr sel_congr dPn_congr apJ_congr nmK_congr kTo_congr fzO_congr rcK_congr lvB_congr crK_congr cdB_congr
theorem run96 {l : Int} (h1 : 1 ≤ l) (h2 : l ≤ 64) : evW 96 [tyA 4 l] [] = some (.ret (.bool true), []) := by
  have l1 : decide (1 ≤ l) = true := by simp; omega
  have l2 : decide (l ≤ 64) = true := by simp; omega
  rw [w96 rfl]
  conv => lhs; arg 2; whnf
  simp +contextual -implicitDefEqProofs (maxSteps := 10000000) only [↓wk0, ↓wk1, ↓wk2, ↓wk3, ↓wk4, ↓wk5, ↓wk6, ↓wk7, ↓wk8, ↓wk9, ↓wk10, ↓wk11, ↓wt0, ↓wt1, ↓wt2, ↓wt3, ↓lv96, ↓fz96, ↓reduceIte, wu0, wu1, Nat.reduceEqDiff, Nat.reduceLT, Nat.reduceAdd, Nat.reduceMul, Nat.reduceSub, Nat.reduceDiv, reduceCtorEq, Int.reduceAdd, Int.reduceLE, Int.reduceLT, Int.reduceToNat, Int.reduceEq, Int.reduceBEq, Nat.reduceLeDiff, Nat.reduceLeDiff, UInt8.reduceToNat, leave_lvB, callD_cdB, lvK_lvB, lvP_lvB, l1, l2, br_eq, br_same]
theorem run34 {bs : List Int} (h1 : 1 ≤ (bs.length : Int)) (h2 : (bs.length : Int) ≤ 64) : evW 34 [tyA 4 bs.length, vl 4 0 (bitsA bs)] [] = some (.ret (.bool (bs.all isBitB)), []) := by
  have h3 := run96 h1 h2
  have h4 := run97 (bs := bs) (by omega)
  have l1 : decide (1 ≤ (bs.length : Int)) = true := by simp; omega
  have l2 : decide ((bs.length : Int) ≤ 64) = true := by simp; omega
  rw [l1, l2, Bool.and_true, Bool.and_true] at h4
  rw [w34 rfl]
  conv => lhs; arg 2; whnf
  simp +contextual -implicitDefEqProofs (maxSteps := 10000000) only [↓wk0, ↓wk1, ↓wk2, ↓wk3, ↓wk4, ↓wk5, ↓wk6, ↓wk7, ↓wk8, ↓wk9, ↓wk10, ↓wk11, ↓wt0, ↓wt1, ↓wt2, ↓wt3, ↓lv34, ↓fz34, ↓tbr34, ↓reduceIte, wu0, wu1, Nat.reduceEqDiff, Nat.reduceLT, Nat.reduceAdd, Nat.reduceMul, Nat.reduceSub, Nat.reduceDiv, reduceCtorEq, Int.reduceAdd, Int.reduceLE, Int.reduceLT, Int.reduceToNat, Int.reduceEq, Int.reduceBEq, Nat.reduceLeDiff, Nat.reduceLeDiff, UInt8.reduceToNat, leave_lvB, callD_cdB, lvK_lvB, lvP_lvB, h3, h4, l1, l2, br_eq, br_same]
theorem run34v {bs : List Int} (h1 : 1 ≤ (bs.length : Int)) (h2 : (bs.length : Int) ≤ 64) : evW 34 [tyA 4 bs.length, vln bs] [] = some (.ret (.bool (bs.all isBitB)), []) :=
  evW_canon.trans ((by kernel_rfl : evW 34 (canVs (ashOf 34) [tyA 4 bs.length, vln bs]) [] = evW 34 [tyA 4 bs.length, vl 4 0 (bitsA bs)] []).trans (run34 h1 h2))
theorem run38 {l : Int} (h1 : 1 ≤ l) (h2 : l ≤ 64) : evW 38 [tyA 4 l, tyA 4 l] [] = some (.ret (.bool true), []) := by
  have h3 := run96 h1 h2
  rw [w38 rfl]
  conv => lhs; arg 2; whnf
  simp +contextual -implicitDefEqProofs (maxSteps := 10000000) only [↓wk0, ↓wk1, ↓wk2, ↓wk3, ↓wk4, ↓wk5, ↓wk6, ↓wk7, ↓wk8, ↓wk9, ↓wk10, ↓wk11, ↓wt0, ↓wt1, ↓wt2, ↓wt3, ↓lv38, ↓fz38, ↓tbr38, ↓reduceIte, wu0, wu1, Nat.reduceEqDiff, Nat.reduceLT, Nat.reduceAdd, Nat.reduceMul, Nat.reduceSub, Nat.reduceDiv, reduceCtorEq, Int.reduceAdd, Int.reduceLE, Int.reduceLT, Int.reduceToNat, Int.reduceEq, Int.reduceBEq, Nat.reduceLeDiff, Nat.reduceLeDiff, UInt8.reduceToNat, leave_lvB, callD_cdB, lvK_lvB, lvP_lvB, h3, br_eq, br_same]
  refine (lpX_code (c' := lp Tryz.f38 0) (by kernel_rfl)).trans ?_
  rw [lq38_0]
  try simp +contextual -implicitDefEqProofs (maxSteps := 10000000) only [↓wk0, ↓wk1, ↓wk2, ↓wk3, ↓wk4, ↓wk5, ↓wk6, ↓wk7, ↓wk8, ↓wk9, ↓wk10, ↓wk11, ↓wt0, ↓wt1, ↓wt2, ↓wt3, ↓lv38, ↓fz38, ↓tbr38, ↓reduceIte, wu0, wu1, Nat.reduceEqDiff, Nat.reduceLT, Nat.reduceAdd, Nat.reduceMul, Nat.reduceSub, Nat.reduceDiv, reduceCtorEq, Int.reduceAdd, Int.reduceLE, Int.reduceLT, Int.reduceToNat, Int.reduceEq, Int.reduceBEq, Nat.reduceLeDiff, Nat.reduceLeDiff, UInt8.reduceToNat, leave_lvB, callD_cdB, lvK_lvB, lvP_lvB, h3, br_eq, br_same]
  unfold lpN
  conv => lhs; arg 2; whnf
  simp +contextual -implicitDefEqProofs (maxSteps := 10000000) only [↓wk0, ↓wk1, ↓wk2, ↓wk3, ↓wk4, ↓wk5, ↓wk6, ↓wk7, ↓wk8, ↓wk9, ↓wk10, ↓wk11, ↓wt0, ↓wt1, ↓wt2, ↓wt3, ↓lv38, ↓fz38, ↓tbr38, ↓reduceIte, wu0, wu1, Nat.reduceEqDiff, Nat.reduceLT, Nat.reduceAdd, Nat.reduceMul, Nat.reduceSub, Nat.reduceDiv, reduceCtorEq, Int.reduceAdd, Int.reduceLE, Int.reduceLT, Int.reduceToNat, Int.reduceEq, Int.reduceBEq, Nat.reduceLeDiff, Nat.reduceLeDiff, UInt8.reduceToNat, leave_lvB, callD_cdB, lvK_lvB, lvP_lvB, h3, br_eq, br_same]
theorem run17 {ys : List Int} (h : ys.length < 4611686018427387904) : evW 17 [vl 4 0 (bitsA ys), vl 4 0 (bitsA ys)] [] = some (.ret (.bool true), []) := by
  have h3 := run59 (bs := ys) h
  rw [eqFrom_self, decide_eq_true rfl, Bool.and_true] at h3
  rw [w17 rfl]
  conv => lhs; arg 2; whnf
  simp +contextual -implicitDefEqProofs (maxSteps := 10000000) only [↓wk0, ↓wk1, ↓wk2, ↓wk3, ↓wk4, ↓wk5, ↓wk6, ↓wk7, ↓wk8, ↓wk9, ↓wk10, ↓wk11, ↓wt0, ↓wt1, ↓wt2, ↓wt3, ↓lv17, ↓fz17, ↓tbr17, ↓reduceIte, wu0, wu1, Nat.reduceEqDiff, Nat.reduceLT, Nat.reduceAdd, Nat.reduceMul, Nat.reduceSub, Nat.reduceDiv, reduceCtorEq, Int.reduceAdd, Int.reduceLE, Int.reduceLT, Int.reduceToNat, Int.reduceEq, Int.reduceBEq, Nat.reduceLeDiff, Nat.reduceLeDiff, UInt8.reduceToNat, leave_lvB, callD_cdB, lvK_lvB, lvP_lvB, h3, br_eq, br_same]
  refine (lpX_code (c' := lp Tryz.f17 0) (by kernel_rfl)).trans ?_
  rw [lq17_0]
  try simp +contextual -implicitDefEqProofs (maxSteps := 10000000) only [↓wk0, ↓wk1, ↓wk2, ↓wk3, ↓wk4, ↓wk5, ↓wk6, ↓wk7, ↓wk8, ↓wk9, ↓wk10, ↓wk11, ↓wt0, ↓wt1, ↓wt2, ↓wt3, ↓lv17, ↓fz17, ↓tbr17, ↓reduceIte, wu0, wu1, Nat.reduceEqDiff, Nat.reduceLT, Nat.reduceAdd, Nat.reduceMul, Nat.reduceSub, Nat.reduceDiv, reduceCtorEq, Int.reduceAdd, Int.reduceLE, Int.reduceLT, Int.reduceToNat, Int.reduceEq, Int.reduceBEq, Nat.reduceLeDiff, Nat.reduceLeDiff, UInt8.reduceToNat, leave_lvB, callD_cdB, lvK_lvB, lvP_lvB, h3, br_eq, br_same]
  unfold lpN
  conv => lhs; arg 2; whnf
  simp +contextual -implicitDefEqProofs (maxSteps := 10000000) only [↓wk0, ↓wk1, ↓wk2, ↓wk3, ↓wk4, ↓wk5, ↓wk6, ↓wk7, ↓wk8, ↓wk9, ↓wk10, ↓wk11, ↓wt0, ↓wt1, ↓wt2, ↓wt3, ↓lv17, ↓fz17, ↓tbr17, ↓reduceIte, wu0, wu1, Nat.reduceEqDiff, Nat.reduceLT, Nat.reduceAdd, Nat.reduceMul, Nat.reduceSub, Nat.reduceDiv, reduceCtorEq, Int.reduceAdd, Int.reduceLE, Int.reduceLT, Int.reduceToNat, Int.reduceEq, Int.reduceBEq, Nat.reduceLeDiff, Nat.reduceLeDiff, UInt8.reduceToNat, leave_lvB, callD_cdB, lvK_lvB, lvP_lvB, h3, br_eq, br_same]
end Go.Proofs.YtdhcgankmhpgeaaGreat.M
namespace Go.Proofs.YtdhcgankmhpgeaaGreat.M
open Go
set_option linter.unusedSimpArgs false
set_option linter.unusedVariables false
set_option maxRecDepth 100000
set_option maxHeartbeats 4000000
attribute [local congr] br_congr ob2_congr cnd_congr gdK_congr ob_congr clK_congr finK_congr reg_congr pkK_congr kTK_congr dlT_congr gck_congr iff2_congr sel_congr dPn_congr apJ_congr nmK_congr kTo_congr fzO_congr rcK_congr lvB_congr crK_congr cdB_congr
theorem run9a {xs bs : List Int} {p q : Int} (h : xs.length < 1) : evW 9 [bitsA xs, bitsA bs, .agg [.int .i64 p, .int .i64 q]] [] = some (.ret (.bool true), []) := by
  have l1 : decide ((xs.length : Int) < 1) = true := by simp; omega
  rw [w9 rfl]
  conv => lhs; arg 2; whnf
  simp +contextual -implicitDefEqProofs (maxSteps := 10000000) only [↓wk0, ↓wk1, ↓wk2, ↓wk3, ↓wk4, ↓wk5, ↓wk6, ↓wk7, ↓wk8, ↓wk9, ↓wk10, ↓wk11, ↓wt0, ↓wt1, ↓wt2, ↓wt3, ↓lv9, ↓fz9, ↓tbr9, ↓reduceIte, wu0, wu1, Nat.reduceEqDiff, Nat.reduceLT, Nat.reduceAdd, Nat.reduceMul, Nat.reduceSub, Nat.reduceDiv, reduceCtorEq, Int.reduceAdd, Int.reduceLE, Int.reduceLT, Int.reduceToNat, Int.reduceEq, Int.reduceBEq, Nat.reduceLeDiff, Nat.reduceLeDiff, UInt8.reduceToNat, leave_lvB, callD_cdB, lvK_lvB, lvP_lvB, evW_awake, l1, br_eq, br_same]
theorem run9b {xs bs : List Int} {p q : Int} (h : 64 < xs.length) : evW 9 [bitsA xs, bitsA bs, .agg [.int .i64 p, .int .i64 q]] [] = some (.ret (.bool true), []) := by
  have l1 : decide ((xs.length : Int) < 1) = false := by simp; omega
  have l2 : decide (64 < (xs.length : Int)) = true := by simp; omega
  rw [w9 rfl]
  conv => lhs; arg 2; whnf
  simp +contextual -implicitDefEqProofs (maxSteps := 10000000) only [↓wk0, ↓wk1, ↓wk2, ↓wk3, ↓wk4, ↓wk5, ↓wk6, ↓wk7, ↓wk8, ↓wk9, ↓wk10, ↓wk11, ↓wt0, ↓wt1, ↓wt2, ↓wt3, ↓lv9, ↓fz9, ↓tbr9, ↓reduceIte, wu0, wu1, Nat.reduceEqDiff, Nat.reduceLT, Nat.reduceAdd, Nat.reduceMul, Nat.reduceSub, Nat.reduceDiv, reduceCtorEq, Int.reduceAdd, Int.reduceLE, Int.reduceLT, Int.reduceToNat, Int.reduceEq, Int.reduceBEq, Nat.reduceLeDiff, Nat.reduceLeDiff, UInt8.reduceToNat, leave_lvB, callD_cdB, lvK_lvB, lvP_lvB, evW_awake, l1, l2, br_eq, br_same]
theorem run9c {xs bs : List Int} {p q : Int} (h1 : 1 ≤ xs.length) (h2 : xs.length ≤ 64) (h3 : xs.length ≠ bs.length) : evW 9 [bitsA xs, bitsA bs, .agg [.int .i64 p, .int .i64 q]] [] = some (.ret (.bool true), []) := by
  have l1 : decide ((xs.length : Int) < 1) = false := by simp; omega
  have l2 : decide (64 < (xs.length : Int)) = false := by simp; omega
  have l3 : ((xs.length : Int) == (bs.length : Int)) = false := by simp; omega
  rw [w9 rfl]
  conv => lhs; arg 2; whnf
  simp +contextual -implicitDefEqProofs (maxSteps := 10000000) only [↓wk0, ↓wk1, ↓wk2, ↓wk3, ↓wk4, ↓wk5, ↓wk6, ↓wk7, ↓wk8, ↓wk9, ↓wk10, ↓wk11, ↓wt0, ↓wt1, ↓wt2, ↓wt3, ↓lv9, ↓fz9, ↓tbr9, ↓reduceIte, wu0, wu1, Nat.reduceEqDiff, Nat.reduceLT, Nat.reduceAdd, Nat.reduceMul, Nat.reduceSub, Nat.reduceDiv, reduceCtorEq, Int.reduceAdd, Int.reduceLE, Int.reduceLT, Int.reduceToNat, Int.reduceEq, Int.reduceBEq, Nat.reduceLeDiff, Nat.reduceLeDiff, UInt8.reduceToNat, leave_lvB, callD_cdB, lvK_lvB, lvP_lvB, evW_awake, l1, l2, l3, br_eq, br_same]
theorem run9d {xs bs : List Int} {p q : Int} (h1 : 1 ≤ xs.length) (h2 : xs.length ≤ 64) (h3 : xs.length = bs.length) (h4 : xs.all isBitB = false) : evW 9 [bitsA xs, bitsA bs, .agg [.int .i64 p, .int .i64 q]] [] = some (.ret (.bool true), []) := by
  have l1 : decide ((xs.length : Int) < 1) = false := by simp; omega
  have l2 : decide (64 < (xs.length : Int)) = false := by simp; omega
  have l3 : (bs.length : Int) = xs.length := by omega
  have r33 := run33 (n := (xs.length : Int))
  have r34 := run34v (bs := xs) (by omega) (by omega)
  rw [w9 rfl]
  conv => lhs; arg 2; whnf
  simp +contextual -implicitDefEqProofs (maxSteps := 10000000) only [↓wk0, ↓wk1, ↓wk2, ↓wk3, ↓wk4, ↓wk5, ↓wk6, ↓wk7, ↓wk8, ↓wk9, ↓wk10, ↓wk11, ↓wt0, ↓wt1, ↓wt2, ↓wt3, ↓lv9, ↓fz9, ↓tbr9, ↓reduceIte, wu0, wu1, Nat.reduceEqDiff, Nat.reduceLT, Nat.reduceAdd, Nat.reduceMul, Nat.reduceSub, Nat.reduceDiv, reduceCtorEq, Int.reduceAdd, Int.reduceLE, Int.reduceLT, Int.reduceToNat, Int.reduceEq, Int.reduceBEq, Nat.reduceLeDiff, Nat.reduceLeDiff, UInt8.reduceToNat, leave_lvB, callD_cdB, lvK_lvB, lvP_lvB, evW_awake, l1, l2, l3, r33, r34, h4, br_eq, br_same]
theorem run9e {xs bs : List Int} {p q : Int} (h1 : 1 ≤ xs.length) (h2 : xs.length ≤ 64) (h3 : xs.length = bs.length) (h4 : xs.all isBitB = true) (h5 : bs.all isBitB = false) : evW 9 [bitsA xs, bitsA bs, .agg [.int .i64 p, .int .i64 q]] [] = some (.ret (.bool true), []) := by
  have l1 : decide ((xs.length : Int) < 1) = false := by simp; omega
  have l2 : decide (64 < (xs.length : Int)) = false := by simp; omega
  have l3 : (bs.length : Int) = xs.length := by omega
  have r33 := run33 (n := (xs.length : Int))
  have r34 := run34v (bs := xs) (by omega) (by omega)
  have s34 := run34v (bs := bs) (by omega) (by omega)
  rw [l3] at s34
  rw [w9 rfl]
  conv => lhs; arg 2; whnf
  simp +contextual -implicitDefEqProofs (maxSteps := 10000000) only [↓wk0, ↓wk1, ↓wk2, ↓wk3, ↓wk4, ↓wk5, ↓wk6, ↓wk7, ↓wk8, ↓wk9, ↓wk10, ↓wk11, ↓wt0, ↓wt1, ↓wt2, ↓wt3, ↓lv9, ↓fz9, ↓tbr9, ↓reduceIte, wu0, wu1, Nat.reduceEqDiff, Nat.reduceLT, Nat.reduceAdd, Nat.reduceMul, Nat.reduceSub, Nat.reduceDiv, reduceCtorEq, Int.reduceAdd, Int.reduceLE, Int.reduceLT, Int.reduceToNat, Int.reduceEq, Int.reduceBEq, Nat.reduceLeDiff, Nat.reduceLeDiff, UInt8.reduceToNat, leave_lvB, callD_cdB, lvK_lvB, lvP_lvB, evW_awake, l1, l2, l3, r33, r34, h4, s34, h5, br_eq, br_same]
end Go.Proofs.YtdhcgankmhpgeaaGreat.M
