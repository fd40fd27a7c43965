import Derived.Test.YtdhcgankmhpgeaaGreatVp
import Derived.OpenShut
import Derived.Lib.SmallJoins
set_option linter.unusedSectionVars false
namespace Go.Proofs.YtdhcgankmhpgeaaGreat.M
open Go
set_option linter.unusedSimpArgs false
set_option linter.unusedVariables false
set_option maxRecDepth 100000
set_option maxHeartbeats 4000000
attribute [local congr] br_congr ob2_congr cnd_congr gdK_congr ob_congr clK_congr finK_congr reg_congr pkK_congr kTK_congr dlT_congr gck_congr iff2_congr sel_congr dPn_congr apJ_congr nmK_congr kTo_congr fzO_congr rcK_congr lvB_congr crK_congr cdB_congr
theorem run17v {ys : List Int} (h : ys.length < 4611686018427387904) : evW 17 [vl 4 0 (bitsA ys), vln ys] [] = some (.ret (.bool true), []) :=
  evW_canon.trans ((by kernel_rfl : evW 17 (canVs (ashOf 17) [vl 4 0 (bitsA ys), vln ys]) [] = evW 17 [vl 4 0 (bitsA ys), vl 4 0 (bitsA ys)] []).trans (run17 h))
theorem intN_z {op : Int → Int → Int} {z : Bool} {a b : Int} (h : (intE op z a b == 0) = false) : intN op z a b = 0 := by
  unfold intE at h
  unfold intN
  cases h1 : isI a with
  | false => rfl
  | true =>
    rw [h1] at h
    cases h2 : isI b with
    | false => rfl
    | true =>
      rw [h2] at h
      cases h3 : (z && (b == 0)) with
      | true => rfl
      | false =>
        rw [h3] at h
        cases h4 : isI (op a b) with
        | false => rfl
        | true =>
          rw [h4] at h
          exact absurd h (by decide)
theorem lessF_t {xs bs : List Int} (h : lessF xs bs = true) : (lessF xs bs && (knownB xs && knownB bs)) = true := by
  unfold lessF at *
  cases h1 : knownB xs <;> cases h2 : knownB bs <;> rw [h1, h2] at h <;> simp_all
theorem lessF_f {xs bs : List Int} (h : lessF xs bs = false) : (lessF xs bs && (knownB xs && knownB bs)) = false := by
  rw [h, Bool.false_and]
theorem run23xadd {a b : Int} : evW 23 [.str [43], .row 0 0 2, .row 1 0 2] [.arr 33 4 [vc 3 a (.sl 1 []), vc 3 b (.sl 1 [])], .arr 38 5 [tc 3 0, tc 3 0]] = some (.ret (.tup [vl (br (intE addI false a b == 0) 3 0) (intN addI false a b) (.sl 1 []), tyA (br (intE addI false a b == 0) 3 0) 0, .int .i64 (intE addI false a b)]), [.arr 33 4 [vc 3 a (.sl 1 []), vc 3 b (.sl 1 [])], .arr 38 5 [tc 3 0, tc 3 0]]) := by
  cases ha : isI a with
  | false =>
    have e1 : intE addI false a b = 2 := by unfold intE; rw [ha, br_false]
    have e2 : intN addI false a b = 0 := by unfold intN; rw [ha, br_false]
    rw [e1, e2, show ((2 : Int) == 0) = false from rfl, br_false]
    exact run23aadd ha
  | true =>
    cases hb : isI b with
    | false =>
      have e1 : intE addI false a b = 2 := by unfold intE; rw [ha, hb, br_false, br_true]
      have e2 : intN addI false a b = 0 := by unfold intN; rw [ha, hb, br_false, br_true]
      rw [e1, e2, show ((2 : Int) == 0) = false from rfl, br_false]
      exact run23badd ha hb
    | true =>
      cases he : (intE addI false a b == 0) with
      | false =>
        rw [br_false, intN_z he]
        exact run23eadd ha hb he
      | true =>
        have h0 : intE addI false a b = 0 := by simpa using he
        rw [br_true, run23iadd ha hb h0, h0]
theorem run23xsub {a b : Int} : evW 23 [.str [45], .row 0 0 2, .row 1 0 2] [.arr 33 4 [vc 3 a (.sl 1 []), vc 3 b (.sl 1 [])], .arr 38 5 [tc 3 0, tc 3 0]] = some (.ret (.tup [vl (br (intE subI false a b == 0) 3 0) (intN subI false a b) (.sl 1 []), tyA (br (intE subI false a b == 0) 3 0) 0, .int .i64 (intE subI false a b)]), [.arr 33 4 [vc 3 a (.sl 1 []), vc 3 b (.sl 1 [])], .arr 38 5 [tc 3 0, tc 3 0]]) := by
  cases ha : isI a with
  | false =>
    have e1 : intE subI false a b = 2 := by unfold intE; rw [ha, br_false]
    have e2 : intN subI false a b = 0 := by unfold intN; rw [ha, br_false]
    rw [e1, e2, show ((2 : Int) == 0) = false from rfl, br_false]
    exact run23asub ha
  | true =>
    cases hb : isI b with
    | false =>
      have e1 : intE subI false a b = 2 := by unfold intE; rw [ha, hb, br_false, br_true]
      have e2 : intN subI false a b = 0 := by unfold intN; rw [ha, hb, br_false, br_true]
      rw [e1, e2, show ((2 : Int) == 0) = false from rfl, br_false]
      exact run23bsub ha hb
    | true =>
      cases he : (intE subI false a b == 0) with
      | false =>
        rw [br_false, intN_z he]
        exact run23esub ha hb he
      | true =>
        have h0 : intE subI false a b = 0 := by simpa using he
        rw [br_true, run23isub ha hb h0, h0]
theorem run23xmul {a b : Int} : evW 23 [.str [42], .row 0 0 2, .row 1 0 2] [.arr 33 4 [vc 3 a (.sl 1 []), vc 3 b (.sl 1 [])], .arr 38 5 [tc 3 0, tc 3 0]] = some (.ret (.tup [vl (br (intE mulI false a b == 0) 3 0) (intN mulI false a b) (.sl 1 []), tyA (br (intE mulI false a b == 0) 3 0) 0, .int .i64 (intE mulI false a b)]), [.arr 33 4 [vc 3 a (.sl 1 []), vc 3 b (.sl 1 [])], .arr 38 5 [tc 3 0, tc 3 0]]) := by
  cases ha : isI a with
  | false =>
    have e1 : intE mulI false a b = 2 := by unfold intE; rw [ha, br_false]
    have e2 : intN mulI false a b = 0 := by unfold intN; rw [ha, br_false]
    rw [e1, e2, show ((2 : Int) == 0) = false from rfl, br_false]
    exact run23amul ha
  | true =>
    cases hb : isI b with
    | false =>
      have e1 : intE mulI false a b = 2 := by unfold intE; rw [ha, hb, br_false, br_true]
      have e2 : intN mulI false a b = 0 := by unfold intN; rw [ha, hb, br_false, br_true]
      rw [e1, e2, show ((2 : Int) == 0) = false from rfl, br_false]
      exact run23bmul ha hb
    | true =>
      cases he : (intE mulI false a b == 0) with
      | false =>
        rw [br_false, intN_z he]
        exact run23emul ha hb he
      | true =>
        have h0 : intE mulI false a b = 0 := by simpa using he
        rw [br_true, run23imul ha hb h0, h0]
theorem run23xdiv {a b : Int} : evW 23 [.str [47], .row 0 0 2, .row 1 0 2] [.arr 33 4 [vc 3 a (.sl 1 []), vc 3 b (.sl 1 [])], .arr 38 5 [tc 3 0, tc 3 0]] = some (.ret (.tup [vl (br (intE floorF true a b == 0) 3 0) (intN floorF true a b) (.sl 1 []), tyA (br (intE floorF true a b == 0) 3 0) 0, .int .i64 (intE floorF true a b)]), [.arr 33 4 [vc 3 a (.sl 1 []), vc 3 b (.sl 1 [])], .arr 38 5 [tc 3 0, tc 3 0]]) := by
  cases ha : isI a with
  | false =>
    have e1 : intE floorF true a b = 2 := by unfold intE; rw [ha, br_false]
    have e2 : intN floorF true a b = 0 := by unfold intN; rw [ha, br_false]
    rw [e1, e2, show ((2 : Int) == 0) = false from rfl, br_false]
    exact run23adiv ha
  | true =>
    cases hb : isI b with
    | false =>
      have e1 : intE floorF true a b = 2 := by unfold intE; rw [ha, hb, br_false, br_true]
      have e2 : intN floorF true a b = 0 := by unfold intN; rw [ha, hb, br_false, br_true]
      rw [e1, e2, show ((2 : Int) == 0) = false from rfl, br_false]
      exact run23bdiv ha hb
    | true =>
      cases he : (intE floorF true a b == 0) with
      | false =>
        rw [br_false, intN_z he]
        exact run23ediv ha hb he
      | true =>
        have h0 : intE floorF true a b = 0 := by simpa using he
        rw [br_true, run23idiv ha hb h0, h0]
theorem run23xmod {a b : Int} : evW 23 [.str [109, 111, 100], .row 0 0 2, .row 1 0 2] [.arr 33 4 [vc 3 a (.sl 1 []), vc 3 b (.sl 1 [])], .arr 38 5 [tc 3 0, tc 3 0]] = some (.ret (.tup [vl (br (intE modI true a b == 0) 3 0) (intN modI true a b) (.sl 1 []), tyA (br (intE modI true a b == 0) 3 0) 0, .int .i64 (intE modI true a b)]), [.arr 33 4 [vc 3 a (.sl 1 []), vc 3 b (.sl 1 [])], .arr 38 5 [tc 3 0, tc 3 0]]) := by
  cases ha : isI a with
  | false =>
    have e1 : intE modI true a b = 2 := by unfold intE; rw [ha, br_false]
    have e2 : intN modI true a b = 0 := by unfold intN; rw [ha, br_false]
    rw [e1, e2, show ((2 : Int) == 0) = false from rfl, br_false]
    exact run23amod ha
  | true =>
    cases hb : isI b with
    | false =>
      have e1 : intE modI true a b = 2 := by unfold intE; rw [ha, hb, br_false, br_true]
      have e2 : intN modI true a b = 0 := by unfold intN; rw [ha, hb, br_false, br_true]
      rw [e1, e2, show ((2 : Int) == 0) = false from rfl, br_false]
      exact run23bmod ha hb
    | true =>
      cases he : (intE modI true a b == 0) with
      | false =>
        rw [br_false, intN_z he]
        exact run23emod ha hb he
      | true =>
        have h0 : intE modI true a b = 0 := by simpa using he
        rw [br_true, run23imod ha hb h0, h0]
theorem ia66_0 {hp : Hp} {b : Nat} : indexAddrD cfg.G hp 66 (.ptr b 0) (.int .i64 0) = some (.ptr b 0) := by kernel_rfl
theorem ia66_1 {hp : Hp} {b : Nat} : indexAddrD cfg.G hp 66 (.ptr b 0) (.int .i64 1) = some (.ptr b 1) := by kernel_rfl
theorem rnd9_0 {p q : Int} {k : K (AE × List Obj')} : lpN ⟨247, 0, kpOf 9, tb9⟩ (lp Tryz.f9 1) ⟨[(5, .ptr 0 0), (205, .row 1 0 5), (206, .int .i64 5), (207, .int .i64 0)], [(0, .var 66 [.int .i64 p, .int .i64 q]), (1, .arr 9 1 [[.str [43]], [.str [45]], [.str [42]], [.str [47]], [.str [109, 111, 100]]])], 2, []⟩ k = lpN ⟨247, 0, kpOf 9, tb9⟩ (lp Tryz.f9 1) ⟨[(5, .ptr 0 0), (205, .row 1 0 5), (206, .int .i64 5), (207, .int .i64 1)], [(0, .var 66 [.int .i64 p, .int .i64 q]), (1, .arr 9 1 [[.str [43]], [.str [45]], [.str [42]], [.str [47]], [.str [109, 111, 100]]])], 2, []⟩ k := by
  have h1 := run23xadd (a := p) (b := q)
  have h2 := run43add (a := p) (b := q)
  have h3 := run41 (n := p)
  have h4 := run41 (n := q)
  conv => lhs; unfold lpN
  conv => lhs; arg 2; whnf
  simp +contextual -implicitDefEqProofs (maxSteps := 10000000) only [↓wk0, ↓wk1, ↓wk2, ↓wk3, ↓wk4, ↓wk5, ↓wk6, ↓wk7, ↓wk8, ↓wk9, ↓wk10, ↓wk11, ↓wt0, ↓wt1, ↓wt2, ↓wt3, ↓lv9, ↓fz9, ↓tbr9, ↓ia66_0, ↓ia66_1, ↓reduceIte, wu0, wu1, Nat.reduceEqDiff, Nat.reduceLT, Nat.reduceAdd, Nat.reduceMul, Nat.reduceSub, Nat.reduceDiv, reduceCtorEq, Int.reduceAdd, Int.reduceLE, Int.reduceLT, Int.reduceToNat, Int.reduceEq, Int.reduceBEq, Nat.reduceLeDiff, Nat.reduceLeDiff, UInt8.reduceToNat, leave_lvB, callD_cdB, lvK_lvB, lvP_lvB, h1, h2, h3, h4, run42, lq9_1, List.set_cons_zero, List.set_cons_succ, br_eq, br_same]
theorem rnd9_1 {p q : Int} {k : K (AE × List Obj')} : lpN ⟨247, 0, kpOf 9, tb9⟩ (lp Tryz.f9 1) ⟨[(5, .ptr 0 0), (205, .row 1 0 5), (206, .int .i64 5), (207, .int .i64 1)], [(0, .var 66 [.int .i64 p, .int .i64 q]), (1, .arr 9 1 [[.str [43]], [.str [45]], [.str [42]], [.str [47]], [.str [109, 111, 100]]])], 2, []⟩ k = lpN ⟨247, 0, kpOf 9, tb9⟩ (lp Tryz.f9 1) ⟨[(5, .ptr 0 0), (205, .row 1 0 5), (206, .int .i64 5), (207, .int .i64 2)], [(0, .var 66 [.int .i64 p, .int .i64 q]), (1, .arr 9 1 [[.str [43]], [.str [45]], [.str [42]], [.str [47]], [.str [109, 111, 100]]])], 2, []⟩ k := by
  have h1 := run23xsub (a := p) (b := q)
  have h2 := run43sub (a := p) (b := q)
  have h3 := run41 (n := p)
  have h4 := run41 (n := q)
  conv => lhs; unfold lpN
  conv => lhs; arg 2; whnf
  simp +contextual -implicitDefEqProofs (maxSteps := 10000000) only [↓wk0, ↓wk1, ↓wk2, ↓wk3, ↓wk4, ↓wk5, ↓wk6, ↓wk7, ↓wk8, ↓wk9, ↓wk10, ↓wk11, ↓wt0, ↓wt1, ↓wt2, ↓wt3, ↓lv9, ↓fz9, ↓tbr9, ↓ia66_0, ↓ia66_1, ↓reduceIte, wu0, wu1, Nat.reduceEqDiff, Nat.reduceLT, Nat.reduceAdd, Nat.reduceMul, Nat.reduceSub, Nat.reduceDiv, reduceCtorEq, Int.reduceAdd, Int.reduceLE, Int.reduceLT, Int.reduceToNat, Int.reduceEq, Int.reduceBEq, Nat.reduceLeDiff, Nat.reduceLeDiff, UInt8.reduceToNat, leave_lvB, callD_cdB, lvK_lvB, lvP_lvB, h1, h2, h3, h4, run42, lq9_1, List.set_cons_zero, List.set_cons_succ, br_eq, br_same]
theorem rnd9_2 {p q : Int} {k : K (AE × List Obj')} : lpN ⟨247, 0, kpOf 9, tb9⟩ (lp Tryz.f9 1) ⟨[(5, .ptr 0 0), (205, .row 1 0 5), (206, .int .i64 5), (207, .int .i64 2)], [(0, .var 66 [.int .i64 p, .int .i64 q]), (1, .arr 9 1 [[.str [43]], [.str [45]], [.str [42]], [.str [47]], [.str [109, 111, 100]]])], 2, []⟩ k = lpN ⟨247, 0, kpOf 9, tb9⟩ (lp Tryz.f9 1) ⟨[(5, .ptr 0 0), (205, .row 1 0 5), (206, .int .i64 5), (207, .int .i64 3)], [(0, .var 66 [.int .i64 p, .int .i64 q]), (1, .arr 9 1 [[.str [43]], [.str [45]], [.str [42]], [.str [47]], [.str [109, 111, 100]]])], 2, []⟩ k := by
  have h1 := run23xmul (a := p) (b := q)
  have h2 := run43mul (a := p) (b := q)
  have h3 := run41 (n := p)
  have h4 := run41 (n := q)
  conv => lhs; unfold lpN
  conv => lhs; arg 2; whnf
  simp +contextual -implicitDefEqProofs (maxSteps := 10000000) only [↓wk0, ↓wk1, ↓wk2, ↓wk3, ↓wk4, ↓wk5, ↓wk6, ↓wk7, ↓wk8, ↓wk9, ↓wk10, ↓wk11, ↓wt0, ↓wt1, ↓wt2, ↓wt3, ↓lv9, ↓fz9, ↓tbr9, ↓ia66_0, ↓ia66_1, ↓reduceIte, wu0, wu1, Nat.reduceEqDiff, Nat.reduceLT, Nat.reduceAdd, Nat.reduceMul, Nat.reduceSub, Nat.reduceDiv, reduceCtorEq, Int.reduceAdd, Int.reduceLE, Int.reduceLT, Int.reduceToNat, Int.reduceEq, Int.reduceBEq, Nat.reduceLeDiff, Nat.reduceLeDiff, UInt8.reduceToNat, leave_lvB, callD_cdB, lvK_lvB, lvP_lvB, h1, h2, h3, h4, run42, lq9_1, List.set_cons_zero, List.set_cons_succ, br_eq, br_same]
theorem rnd9_3 {p q : Int} {k : K (AE × List Obj')} : lpN ⟨247, 0, kpOf 9, tb9⟩ (lp Tryz.f9 1) ⟨[(5, .ptr 0 0), (205, .row 1 0 5), (206, .int .i64 5), (207, .int .i64 3)], [(0, .var 66 [.int .i64 p, .int .i64 q]), (1, .arr 9 1 [[.str [43]], [.str [45]], [.str [42]], [.str [47]], [.str [109, 111, 100]]])], 2, []⟩ k = lpN ⟨247, 0, kpOf 9, tb9⟩ (lp Tryz.f9 1) ⟨[(5, .ptr 0 0), (205, .row 1 0 5), (206, .int .i64 5), (207, .int .i64 4)], [(0, .var 66 [.int .i64 p, .int .i64 q]), (1, .arr 9 1 [[.str [43]], [.str [45]], [.str [42]], [.str [47]], [.str [109, 111, 100]]])], 2, []⟩ k := by
  have h1 := run23xdiv (a := p) (b := q)
  have h2 := run43div (a := p) (b := q)
  have h3 := run41 (n := p)
  have h4 := run41 (n := q)
  conv => lhs; unfold lpN
  conv => lhs; arg 2; whnf
  simp +contextual -implicitDefEqProofs (maxSteps := 10000000) only [↓wk0, ↓wk1, ↓wk2, ↓wk3, ↓wk4, ↓wk5, ↓wk6, ↓wk7, ↓wk8, ↓wk9, ↓wk10, ↓wk11, ↓wt0, ↓wt1, ↓wt2, ↓wt3, ↓lv9, ↓fz9, ↓tbr9, ↓ia66_0, ↓ia66_1, ↓reduceIte, wu0, wu1, Nat.reduceEqDiff, Nat.reduceLT, Nat.reduceAdd, Nat.reduceMul, Nat.reduceSub, Nat.reduceDiv, reduceCtorEq, Int.reduceAdd, Int.reduceLE, Int.reduceLT, Int.reduceToNat, Int.reduceEq, Int.reduceBEq, Nat.reduceLeDiff, Nat.reduceLeDiff, UInt8.reduceToNat, leave_lvB, callD_cdB, lvK_lvB, lvP_lvB, h1, h2, h3, h4, run42, lq9_1, List.set_cons_zero, List.set_cons_succ, br_eq, br_same]
theorem rnd9_4 {p q : Int} {k : K (AE × List Obj')} : lpN ⟨247, 0, kpOf 9, tb9⟩ (lp Tryz.f9 1) ⟨[(5, .ptr 0 0), (205, .row 1 0 5), (206, .int .i64 5), (207, .int .i64 4)], [(0, .var 66 [.int .i64 p, .int .i64 q]), (1, .arr 9 1 [[.str [43]], [.str [45]], [.str [42]], [.str [47]], [.str [109, 111, 100]]])], 2, []⟩ k = lpN ⟨247, 0, kpOf 9, tb9⟩ (lp Tryz.f9 1) ⟨[(5, .ptr 0 0), (205, .row 1 0 5), (206, .int .i64 5), (207, .int .i64 5)], [(0, .var 66 [.int .i64 p, .int .i64 q]), (1, .arr 9 1 [[.str [43]], [.str [45]], [.str [42]], [.str [47]], [.str [109, 111, 100]]])], 2, []⟩ k := by
  have h1 := run23xmod (a := p) (b := q)
  have h2 := run43mod (a := p) (b := q)
  have h3 := run41 (n := p)
  have h4 := run41 (n := q)
  conv => lhs; unfold lpN
  conv => lhs; arg 2; whnf
  simp +contextual -implicitDefEqProofs (maxSteps := 10000000) only [↓wk0, ↓wk1, ↓wk2, ↓wk3, ↓wk4, ↓wk5, ↓wk6, ↓wk7, ↓wk8, ↓wk9, ↓wk10, ↓wk11, ↓wt0, ↓wt1, ↓wt2, ↓wt3, ↓lv9, ↓fz9, ↓tbr9, ↓ia66_0, ↓ia66_1, ↓reduceIte, wu0, wu1, Nat.reduceEqDiff, Nat.reduceLT, Nat.reduceAdd, Nat.reduceMul, Nat.reduceSub, Nat.reduceDiv, reduceCtorEq, Int.reduceAdd, Int.reduceLE, Int.reduceLT, Int.reduceToNat, Int.reduceEq, Int.reduceBEq, Nat.reduceLeDiff, Nat.reduceLeDiff, UInt8.reduceToNat, leave_lvB, callD_cdB, lvK_lvB, lvP_lvB, h1, h2, h3, h4, run42, lq9_1, List.set_cons_zero, List.set_cons_succ, br_eq, br_same]
theorem run9mtt {xs bs : List Int} {p q : Int} (hx : isP xs = true) (hb : isP bs = true) (hl : xs.length = bs.length) (h4 : xs.all isBitB = true) (h5 : bs.all isBitB = true) (hu : lessF xs bs = true) (hv : eqB xs bs = true) : evW 9 [bitsA xs, bitsA bs, .agg [.int .i64 p, .int .i64 q]] [] = some (.ret (.bool true), []) := by
  obtain ⟨k1, k2⟩ := isP_le hx
  have l1 : decide ((xs.length : Int) < 1) = false := by simp; omega
  have l2 : decide (64 < (xs.length : Int)) = false := by simp; omega
  have l3 : (bs.length : Int) = xs.length := by omega
  have r33 := run33 (n := (xs.length : Int))
  have r34 := run34v (bs := xs) (by omega) (by omega)
  have s34 := run34v (bs := bs) (by omega) (by omega)
  rw [l3] at s34
  have aadd := run23add hx hb hl
  have badd := run35 hx hb hl
  have cadd := run17v (ys := (cmpF (fun x y => IntKind.u64.wrap (x + y)) xs bs)) (by rw [cmpF_length]; omega)
  have asub := run23sub hx hb hl
  have bsub := run36 hx hb hl
  have csub := run17v (ys := (cmpF (fun x y => IntKind.u64.wrap (x - y)) xs bs)) (by rw [cmpF_length]; omega)
  have amul := run23mul hx hb hl
  have bmul := run37 hx hb hl
  have cmul := run17v (ys := (cmpF (fun x y => IntKind.u64.wrap (x * y)) xs bs)) (by rw [cmpF_length]; omega)
  have r38 := run38 k1 k2
  have d1 := run23less hx hb hl
  have d2 := run39 hx hb hl
  rw [lessF_t hu] at d1
  rw [hu] at d2
  have d3 := run23eqt hx hb hl hv
  have d4 := run40v hx hb hl
  rw [hv] at d4
  have d5 := run23net hx hb hl hv
  rw [w9 rfl]
  conv => lhs; arg 2; whnf
  simp +contextual -implicitDefEqProofs (maxSteps := 10000000) only [↓wk0, ↓wk1, ↓wk2, ↓wk3, ↓wk4, ↓wk5, ↓wk6, ↓wk7, ↓wk8, ↓wk9, ↓wk10, ↓wk11, ↓wt0, ↓wt1, ↓wt2, ↓wt3, ↓lv9, ↓fz9, ↓tbr9, ↓reduceIte, wu0, wu1, Nat.reduceEqDiff, Nat.reduceLT, Nat.reduceAdd, Nat.reduceMul, Nat.reduceSub, Nat.reduceDiv, reduceCtorEq, Int.reduceAdd, Int.reduceLE, Int.reduceLT, Int.reduceToNat, Int.reduceEq, Int.reduceBEq, Nat.reduceLeDiff, Nat.reduceLeDiff, UInt8.reduceToNat, leave_lvB, callD_cdB, lvK_lvB, lvP_lvB, l1, l2, l3, r33, r34, h4, s34, h5, List.set_cons_zero, List.set_cons_succ, br_eq, br_same]
  refine (lpX_code (c' := lp Tryz.f9 0) (by kernel_rfl)).trans ?_
  rw [lq9_0]
  simp +contextual -implicitDefEqProofs (maxSteps := 10000000) only [↓wk0, ↓wk1, ↓wk2, ↓wk3, ↓wk4, ↓wk5, ↓wk6, ↓wk7, ↓wk8, ↓wk9, ↓wk10, ↓wk11, ↓wt0, ↓wt1, ↓wt2, ↓wt3, ↓lv9, ↓fz9, ↓tbr9, ↓reduceIte, wu0, wu1, Nat.reduceEqDiff, Nat.reduceLT, Nat.reduceAdd, Nat.reduceMul, Nat.reduceSub, Nat.reduceDiv, reduceCtorEq, Int.reduceAdd, Int.reduceLE, Int.reduceLT, Int.reduceToNat, Int.reduceEq, Int.reduceBEq, Nat.reduceLeDiff, Nat.reduceLeDiff, UInt8.reduceToNat, leave_lvB, callD_cdB, lvK_lvB, lvP_lvB, l1, l2, l3, r33, r34, h4, s34, h5, List.set_cons_zero, List.set_cons_succ, br_eq, br_same]
  unfold lpN
  conv => lhs; arg 2; whnf
  simp +contextual -implicitDefEqProofs (maxSteps := 10000000) only [↓wk0, ↓wk1, ↓wk2, ↓wk3, ↓wk4, ↓wk5, ↓wk6, ↓wk7, ↓wk8, ↓wk9, ↓wk10, ↓wk11, ↓wt0, ↓wt1, ↓wt2, ↓wt3, ↓lv9, ↓fz9, ↓tbr9, ↓reduceIte, wu0, wu1, Nat.reduceEqDiff, Nat.reduceLT, Nat.reduceAdd, Nat.reduceMul, Nat.reduceSub, Nat.reduceDiv, reduceCtorEq, Int.reduceAdd, Int.reduceLE, Int.reduceLT, Int.reduceToNat, Int.reduceEq, Int.reduceBEq, Nat.reduceLeDiff, Nat.reduceLeDiff, UInt8.reduceToNat, leave_lvB, callD_cdB, lvK_lvB, lvP_lvB, r38, aadd, badd, cadd, asub, bsub, csub, amul, bmul, cmul, l1, l2, l3, r33, r34, h4, s34, h5, List.set_cons_zero, List.set_cons_succ, lq9_0, br_eq, br_same]
  unfold lpN
  conv => lhs; arg 2; whnf
  simp +contextual -implicitDefEqProofs (maxSteps := 10000000) only [↓wk0, ↓wk1, ↓wk2, ↓wk3, ↓wk4, ↓wk5, ↓wk6, ↓wk7, ↓wk8, ↓wk9, ↓wk10, ↓wk11, ↓wt0, ↓wt1, ↓wt2, ↓wt3, ↓lv9, ↓fz9, ↓tbr9, ↓reduceIte, wu0, wu1, Nat.reduceEqDiff, Nat.reduceLT, Nat.reduceAdd, Nat.reduceMul, Nat.reduceSub, Nat.reduceDiv, reduceCtorEq, Int.reduceAdd, Int.reduceLE, Int.reduceLT, Int.reduceToNat, Int.reduceEq, Int.reduceBEq, Nat.reduceLeDiff, Nat.reduceLeDiff, UInt8.reduceToNat, leave_lvB, callD_cdB, lvK_lvB, lvP_lvB, r38, aadd, badd, cadd, asub, bsub, csub, amul, bmul, cmul, l1, l2, l3, r33, r34, h4, s34, h5, List.set_cons_zero, List.set_cons_succ, lq9_0, br_eq, br_same]
  unfold lpN
  conv => lhs; arg 2; whnf
  simp +contextual -implicitDefEqProofs (maxSteps := 10000000) only [↓wk0, ↓wk1, ↓wk2, ↓wk3, ↓wk4, ↓wk5, ↓wk6, ↓wk7, ↓wk8, ↓wk9, ↓wk10, ↓wk11, ↓wt0, ↓wt1, ↓wt2, ↓wt3, ↓lv9, ↓fz9, ↓tbr9, ↓reduceIte, wu0, wu1, Nat.reduceEqDiff, Nat.reduceLT, Nat.reduceAdd, Nat.reduceMul, Nat.reduceSub, Nat.reduceDiv, reduceCtorEq, Int.reduceAdd, Int.reduceLE, Int.reduceLT, Int.reduceToNat, Int.reduceEq, Int.reduceBEq, Nat.reduceLeDiff, Nat.reduceLeDiff, UInt8.reduceToNat, leave_lvB, callD_cdB, lvK_lvB, lvP_lvB, r38, aadd, badd, cadd, asub, bsub, csub, amul, bmul, cmul, l1, l2, l3, r33, r34, h4, s34, h5, List.set_cons_zero, List.set_cons_succ, lq9_0, br_eq, br_same]
  unfold lpN
  conv => lhs; arg 2; whnf
  simp +contextual -implicitDefEqProofs (maxSteps := 10000000) only [↓wk0, ↓wk1, ↓wk2, ↓wk3, ↓wk4, ↓wk5, ↓wk6, ↓wk7, ↓wk8, ↓wk9, ↓wk10, ↓wk11, ↓wt0, ↓wt1, ↓wt2, ↓wt3, ↓lv9, ↓fz9, ↓tbr9, ↓reduceIte, wu0, wu1, Nat.reduceEqDiff, Nat.reduceLT, Nat.reduceAdd, Nat.reduceMul, Nat.reduceSub, Nat.reduceDiv, reduceCtorEq, Int.reduceAdd, Int.reduceLE, Int.reduceLT, Int.reduceToNat, Int.reduceEq, Int.reduceBEq, Nat.reduceLeDiff, Nat.reduceLeDiff, UInt8.reduceToNat, leave_lvB, callD_cdB, lvK_lvB, lvP_lvB, d1, d2, d3, d4, d5, br_true, br_false, l1, l2, l3, r33, r34, h4, s34, h5, List.set_cons_zero, List.set_cons_succ, lq9_0, br_eq, br_same]
  refine (lpX_code (c' := lp Tryz.f9 1) (by kernel_rfl)).trans ?_
  rw [lq9_1]
  try simp +contextual -implicitDefEqProofs (maxSteps := 10000000) only [↓wk0, ↓wk1, ↓wk2, ↓wk3, ↓wk4, ↓wk5, ↓wk6, ↓wk7, ↓wk8, ↓wk9, ↓wk10, ↓wk11, ↓wt0, ↓wt1, ↓wt2, ↓wt3, ↓lv9, ↓fz9, ↓tbr9, ↓reduceIte, wu0, wu1, Nat.reduceEqDiff, Nat.reduceLT, Nat.reduceAdd, Nat.reduceMul, Nat.reduceSub, Nat.reduceDiv, reduceCtorEq, Int.reduceAdd, Int.reduceLE, Int.reduceLT, Int.reduceToNat, Int.reduceEq, Int.reduceBEq, Nat.reduceLeDiff, Nat.reduceLeDiff, UInt8.reduceToNat, leave_lvB, callD_cdB, lvK_lvB, lvP_lvB, l1, l2, l3, r33, r34, h4, s34, h5, List.set_cons_zero, List.set_cons_succ, br_eq, br_same]
  refine (rnd9_0.trans (rnd9_1.trans (rnd9_2.trans (rnd9_3.trans rnd9_4)))).trans ?_
  unfold lpN
  conv => lhs; arg 2; whnf
  simp +contextual -implicitDefEqProofs (maxSteps := 10000000) only [↓wk0, ↓wk1, ↓wk2, ↓wk3, ↓wk4, ↓wk5, ↓wk6, ↓wk7, ↓wk8, ↓wk9, ↓wk10, ↓wk11, ↓wt0, ↓wt1, ↓wt2, ↓wt3, ↓lv9, ↓fz9, ↓tbr9, ↓reduceIte, wu0, wu1, Nat.reduceEqDiff, Nat.reduceLT, Nat.reduceAdd, Nat.reduceMul, Nat.reduceSub, Nat.reduceDiv, reduceCtorEq, Int.reduceAdd, Int.reduceLE, Int.reduceLT, Int.reduceToNat, Int.reduceEq, Int.reduceBEq, Nat.reduceLeDiff, Nat.reduceLeDiff, UInt8.reduceToNat, leave_lvB, callD_cdB, lvK_lvB, lvP_lvB, evW_awake, lq9_1, l1, l2, l3, r33, r34, h4, s34, h5, List.set_cons_zero, List.set_cons_succ, br_eq, br_same]
theorem run9mtf {xs bs : List Int} {p q : Int} (hx : isP xs = true) (hb : isP bs = true) (hl : xs.length = bs.length) (h4 : xs.all isBitB = true) (h5 : bs.all isBitB = true) (hu : lessF xs bs = true) (hv : eqB xs bs = false) : evW 9 [bitsA xs, bitsA bs, .agg [.int .i64 p, .int .i64 q]] [] = some (.ret (.bool true), []) := by
  obtain ⟨k1, k2⟩ := isP_le hx
  have l1 : decide ((xs.length : Int) < 1) = false := by simp; omega
  have l2 : decide (64 < (xs.length : Int)) = false := by simp; omega
  have l3 : (bs.length : Int) = xs.length := by omega
  have r33 := run33 (n := (xs.length : Int))
  have r34 := run34v (bs := xs) (by omega) (by omega)
  have s34 := run34v (bs := bs) (by omega) (by omega)
  rw [l3] at s34
  have aadd := run23add hx hb hl
  have badd := run35 hx hb hl
  have cadd := run17v (ys := (cmpF (fun x y => IntKind.u64.wrap (x + y)) xs bs)) (by rw [cmpF_length]; omega)
  have asub := run23sub hx hb hl
  have bsub := run36 hx hb hl
  have csub := run17v (ys := (cmpF (fun x y => IntKind.u64.wrap (x - y)) xs bs)) (by rw [cmpF_length]; omega)
  have amul := run23mul hx hb hl
  have bmul := run37 hx hb hl
  have cmul := run17v (ys := (cmpF (fun x y => IntKind.u64.wrap (x * y)) xs bs)) (by rw [cmpF_length]; omega)
  have r38 := run38 k1 k2
  have d1 := run23less hx hb hl
  have d2 := run39 hx hb hl
  rw [lessF_t hu] at d1
  rw [hu] at d2
  have d3 := run23eqf hx hb hl hv
  have d4 := run40v hx hb hl
  rw [hv] at d4
  have d5 := run23nef hx hb hl hv
  rw [w9 rfl]
  conv => lhs; arg 2; whnf
  simp +contextual -implicitDefEqProofs (maxSteps := 10000000) only [↓wk0, ↓wk1, ↓wk2, ↓wk3, ↓wk4, ↓wk5, ↓wk6, ↓wk7, ↓wk8, ↓wk9, ↓wk10, ↓wk11, ↓wt0, ↓wt1, ↓wt2, ↓wt3, ↓lv9, ↓fz9, ↓tbr9, ↓reduceIte, wu0, wu1, Nat.reduceEqDiff, Nat.reduceLT, Nat.reduceAdd, Nat.reduceMul, Nat.reduceSub, Nat.reduceDiv, reduceCtorEq, Int.reduceAdd, Int.reduceLE, Int.reduceLT, Int.reduceToNat, Int.reduceEq, Int.reduceBEq, Nat.reduceLeDiff, Nat.reduceLeDiff, UInt8.reduceToNat, leave_lvB, callD_cdB, lvK_lvB, lvP_lvB, l1, l2, l3, r33, r34, h4, s34, h5, List.set_cons_zero, List.set_cons_succ, br_eq, br_same]
  refine (lpX_code (c' := lp Tryz.f9 0) (by kernel_rfl)).trans ?_
  rw [lq9_0]
  simp +contextual -implicitDefEqProofs (maxSteps := 10000000) only [↓wk0, ↓wk1, ↓wk2, ↓wk3, ↓wk4, ↓wk5, ↓wk6, ↓wk7, ↓wk8, ↓wk9, ↓wk10, ↓wk11, ↓wt0, ↓wt1, ↓wt2, ↓wt3, ↓lv9, ↓fz9, ↓tbr9, ↓reduceIte, wu0, wu1, Nat.reduceEqDiff, Nat.reduceLT, Nat.reduceAdd, Nat.reduceMul, Nat.reduceSub, Nat.reduceDiv, reduceCtorEq, Int.reduceAdd, Int.reduceLE, Int.reduceLT, Int.reduceToNat, Int.reduceEq, Int.reduceBEq, Nat.reduceLeDiff, Nat.reduceLeDiff, UInt8.reduceToNat, leave_lvB, callD_cdB, lvK_lvB, lvP_lvB, l1, l2, l3, r33, r34, h4, s34, h5, List.set_cons_zero, List.set_cons_succ, br_eq, br_same]
  unfold lpN
  conv => lhs; arg 2; whnf
  simp +contextual -implicitDefEqProofs (maxSteps := 10000000) only [↓wk0, ↓wk1, ↓wk2, ↓wk3, ↓wk4, ↓wk5, ↓wk6, ↓wk7, ↓wk8, ↓wk9, ↓wk10, ↓wk11, ↓wt0, ↓wt1, ↓wt2, ↓wt3, ↓lv9, ↓fz9, ↓tbr9, ↓reduceIte, wu0, wu1, Nat.reduceEqDiff, Nat.reduceLT, Nat.reduceAdd, Nat.reduceMul, Nat.reduceSub, Nat.reduceDiv, reduceCtorEq, Int.reduceAdd, Int.reduceLE, Int.reduceLT, Int.reduceToNat, Int.reduceEq, Int.reduceBEq, Nat.reduceLeDiff, Nat.reduceLeDiff, UInt8.reduceToNat, leave_lvB, callD_cdB, lvK_lvB, lvP_lvB, r38, aadd, badd, cadd, asub, bsub, csub, amul, bmul, cmul, l1, l2, l3, r33, r34, h4, s34, h5, List.set_cons_zero, List.set_cons_succ, lq9_0, br_eq, br_same]
  unfold lpN
  conv => lhs; arg 2; whnf
  simp +contextual -implicitDefEqProofs (maxSteps := 10000000) only [↓wk0, ↓wk1, ↓wk2, ↓wk3, ↓wk4, ↓wk5, ↓wk6, ↓wk7, ↓wk8, ↓wk9, ↓wk10, ↓wk11, ↓wt0, ↓wt1, ↓wt2, ↓wt3, ↓lv9, ↓fz9, ↓tbr9, ↓reduceIte, wu0, wu1, Nat.reduceEqDiff, Nat.reduceLT, Nat.reduceAdd, Nat.reduceMul, Nat.reduceSub, Nat.reduceDiv, reduceCtorEq, Int.reduceAdd, Int.reduceLE, Int.reduceLT, Int.reduceToNat, Int.reduceEq, Int.reduceBEq, Nat.reduceLeDiff, Nat.reduceLeDiff, UInt8.reduceToNat, leave_lvB, callD_cdB, lvK_lvB, lvP_lvB, r38, aadd, badd, cadd, asub, bsub, csub, amul, bmul, cmul, l1, l2, l3, r33, r34, h4, s34, h5, List.set_cons_zero, List.set_cons_succ, lq9_0, br_eq, br_same]
  unfold lpN
  conv => lhs; arg 2; whnf
  simp +contextual -implicitDefEqProofs (maxSteps := 10000000) only [↓wk0, ↓wk1, ↓wk2, ↓wk3, ↓wk4, ↓wk5, ↓wk6, ↓wk7, ↓wk8, ↓wk9, ↓wk10, ↓wk11, ↓wt0, ↓wt1, ↓wt2, ↓wt3, ↓lv9, ↓fz9, ↓tbr9, ↓reduceIte, wu0, wu1, Nat.reduceEqDiff, Nat.reduceLT, Nat.reduceAdd, Nat.reduceMul, Nat.reduceSub, Nat.reduceDiv, reduceCtorEq, Int.reduceAdd, Int.reduceLE, Int.reduceLT, Int.reduceToNat, Int.reduceEq, Int.reduceBEq, Nat.reduceLeDiff, Nat.reduceLeDiff, UInt8.reduceToNat, leave_lvB, callD_cdB, lvK_lvB, lvP_lvB, r38, aadd, badd, cadd, asub, bsub, csub, amul, bmul, cmul, l1, l2, l3, r33, r34, h4, s34, h5, List.set_cons_zero, List.set_cons_succ, lq9_0, br_eq, br_same]
  unfold lpN
  conv => lhs; arg 2; whnf
  simp +contextual -implicitDefEqProofs (maxSteps := 10000000) only [↓wk0, ↓wk1, ↓wk2, ↓wk3, ↓wk4, ↓wk5, ↓wk6, ↓wk7, ↓wk8, ↓wk9, ↓wk10, ↓wk11, ↓wt0, ↓wt1, ↓wt2, ↓wt3, ↓lv9, ↓fz9, ↓tbr9, ↓reduceIte, wu0, wu1, Nat.reduceEqDiff, Nat.reduceLT, Nat.reduceAdd, Nat.reduceMul, Nat.reduceSub, Nat.reduceDiv, reduceCtorEq, Int.reduceAdd, Int.reduceLE, Int.reduceLT, Int.reduceToNat, Int.reduceEq, Int.reduceBEq, Nat.reduceLeDiff, Nat.reduceLeDiff, UInt8.reduceToNat, leave_lvB, callD_cdB, lvK_lvB, lvP_lvB, d1, d2, d3, d4, d5, br_true, br_false, l1, l2, l3, r33, r34, h4, s34, h5, List.set_cons_zero, List.set_cons_succ, lq9_0, br_eq, br_same]
  refine (lpX_code (c' := lp Tryz.f9 1) (by kernel_rfl)).trans ?_
  rw [lq9_1]
  try simp +contextual -implicitDefEqProofs (maxSteps := 10000000) only [↓wk0, ↓wk1, ↓wk2, ↓wk3, ↓wk4, ↓wk5, ↓wk6, ↓wk7, ↓wk8, ↓wk9, ↓wk10, ↓wk11, ↓wt0, ↓wt1, ↓wt2, ↓wt3, ↓lv9, ↓fz9, ↓tbr9, ↓reduceIte, wu0, wu1, Nat.reduceEqDiff, Nat.reduceLT, Nat.reduceAdd, Nat.reduceMul, Nat.reduceSub, Nat.reduceDiv, reduceCtorEq, Int.reduceAdd, Int.reduceLE, Int.reduceLT, Int.reduceToNat, Int.reduceEq, Int.reduceBEq, Nat.reduceLeDiff, Nat.reduceLeDiff, UInt8.reduceToNat, leave_lvB, callD_cdB, lvK_lvB, lvP_lvB, l1, l2, l3, r33, r34, h4, s34, h5, List.set_cons_zero, List.set_cons_succ, br_eq, br_same]
  refine (rnd9_0.trans (rnd9_1.trans (rnd9_2.trans (rnd9_3.trans rnd9_4)))).trans ?_
  unfold lpN
  conv => lhs; arg 2; whnf
  simp +contextual -implicitDefEqProofs (maxSteps := 10000000) only [↓wk0, ↓wk1, ↓wk2, ↓wk3, ↓wk4, ↓wk5, ↓wk6, ↓wk7, ↓wk8, ↓wk9, ↓wk10, ↓wk11, ↓wt0, ↓wt1, ↓wt2, ↓wt3, ↓lv9, ↓fz9, ↓tbr9, ↓reduceIte, wu0, wu1, Nat.reduceEqDiff, Nat.reduceLT, Nat.reduceAdd, Nat.reduceMul, Nat.reduceSub, Nat.reduceDiv, reduceCtorEq, Int.reduceAdd, Int.reduceLE, Int.reduceLT, Int.reduceToNat, Int.reduceEq, Int.reduceBEq, Nat.reduceLeDiff, Nat.reduceLeDiff, UInt8.reduceToNat, leave_lvB, callD_cdB, lvK_lvB, lvP_lvB, evW_awake, lq9_1, l1, l2, l3, r33, r34, h4, s34, h5, List.set_cons_zero, List.set_cons_succ, br_eq, br_same]
theorem run9mft {xs bs : List Int} {p q : Int} (hx : isP xs = true) (hb : isP bs = true) (hl : xs.length = bs.length) (h4 : xs.all isBitB = true) (h5 : bs.all isBitB = true) (hu : lessF xs bs = false) (hv : eqB xs bs = true) : evW 9 [bitsA xs, bitsA bs, .agg [.int .i64 p, .int .i64 q]] [] = some (.ret (.bool true), []) := by
  obtain ⟨k1, k2⟩ := isP_le hx
  have l1 : decide ((xs.length : Int) < 1) = false := by simp; omega
  have l2 : decide (64 < (xs.length : Int)) = false := by simp; omega
  have l3 : (bs.length : Int) = xs.length := by omega
  have r33 := run33 (n := (xs.length : Int))
  have r34 := run34v (bs := xs) (by omega) (by omega)
  have s34 := run34v (bs := bs) (by omega) (by omega)
  rw [l3] at s34
  have aadd := run23add hx hb hl
  have badd := run35 hx hb hl
  have cadd := run17v (ys := (cmpF (fun x y => IntKind.u64.wrap (x + y)) xs bs)) (by rw [cmpF_length]; omega)
  have asub := run23sub hx hb hl
  have bsub := run36 hx hb hl
  have csub := run17v (ys := (cmpF (fun x y => IntKind.u64.wrap (x - y)) xs bs)) (by rw [cmpF_length]; omega)
  have amul := run23mul hx hb hl
  have bmul := run37 hx hb hl
  have cmul := run17v (ys := (cmpF (fun x y => IntKind.u64.wrap (x * y)) xs bs)) (by rw [cmpF_length]; omega)
  have r38 := run38 k1 k2
  have d1 := run23less hx hb hl
  have d2 := run39 hx hb hl
  rw [lessF_f hu] at d1
  rw [hu] at d2
  have d3 := run23eqt hx hb hl hv
  have d4 := run40v hx hb hl
  rw [hv] at d4
  have d5 := run23net hx hb hl hv
  rw [w9 rfl]
  conv => lhs; arg 2; whnf
  simp +contextual -implicitDefEqProofs (maxSteps := 10000000) only [↓wk0, ↓wk1, ↓wk2, ↓wk3, ↓wk4, ↓wk5, ↓wk6, ↓wk7, ↓wk8, ↓wk9, ↓wk10, ↓wk11, ↓wt0, ↓wt1, ↓wt2, ↓wt3, ↓lv9, ↓fz9, ↓tbr9, ↓reduceIte, wu0, wu1, Nat.reduceEqDiff, Nat.reduceLT, Nat.reduceAdd, Nat.reduceMul, Nat.reduceSub, Nat.reduceDiv, reduceCtorEq, Int.reduceAdd, Int.reduceLE, Int.reduceLT, Int.reduceToNat, Int.reduceEq, Int.reduceBEq, Nat.reduceLeDiff, Nat.reduceLeDiff, UInt8.reduceToNat, leave_lvB, callD_cdB, lvK_lvB, lvP_lvB, l1, l2, l3, r33, r34, h4, s34, h5, List.set_cons_zero, List.set_cons_succ, br_eq, br_same]
  refine (lpX_code (c' := lp Tryz.f9 0) (by kernel_rfl)).trans ?_
  rw [lq9_0]
  simp +contextual -implicitDefEqProofs (maxSteps := 10000000) only [↓wk0, ↓wk1, ↓wk2, ↓wk3, ↓wk4, ↓wk5, ↓wk6, ↓wk7, ↓wk8, ↓wk9, ↓wk10, ↓wk11, ↓wt0, ↓wt1, ↓wt2, ↓wt3, ↓lv9, ↓fz9, ↓tbr9, ↓reduceIte, wu0, wu1, Nat.reduceEqDiff, Nat.reduceLT, Nat.reduceAdd, Nat.reduceMul, Nat.reduceSub, Nat.reduceDiv, reduceCtorEq, Int.reduceAdd, Int.reduceLE, Int.reduceLT, Int.reduceToNat, Int.reduceEq, Int.reduceBEq, Nat.reduceLeDiff, Nat.reduceLeDiff, UInt8.reduceToNat, leave_lvB, callD_cdB, lvK_lvB, lvP_lvB, l1, l2, l3, r33, r34, h4, s34, h5, List.set_cons_zero, List.set_cons_succ, br_eq, br_same]
  unfold lpN
  conv => lhs; arg 2; whnf
  simp +contextual -implicitDefEqProofs (maxSteps := 10000000) only [↓wk0, ↓wk1, ↓wk2, ↓wk3, ↓wk4, ↓wk5, ↓wk6, ↓wk7, ↓wk8, ↓wk9, ↓wk10, ↓wk11, ↓wt0, ↓wt1, ↓wt2, ↓wt3, ↓lv9, ↓fz9, ↓tbr9, ↓reduceIte, wu0, wu1, Nat.reduceEqDiff, Nat.reduceLT, Nat.reduceAdd, Nat.reduceMul, Nat.reduceSub, Nat.reduceDiv, reduceCtorEq, Int.reduceAdd, Int.reduceLE, Int.reduceLT, Int.reduceToNat, Int.reduceEq, Int.reduceBEq, Nat.reduceLeDiff, Nat.reduceLeDiff, UInt8.reduceToNat, leave_lvB, callD_cdB, lvK_lvB, lvP_lvB, r38, aadd, badd, cadd, asub, bsub, csub, amul, bmul, cmul, l1, l2, l3, r33, r34, h4, s34, h5, List.set_cons_zero, List.set_cons_succ, lq9_0, br_eq, br_same]
  unfold lpN
  conv => lhs; arg 2; whnf
  simp +contextual -implicitDefEqProofs (maxSteps := 10000000) only [↓wk0, ↓wk1, ↓wk2, ↓wk3, ↓wk4, ↓wk5, ↓wk6, ↓wk7, ↓wk8, ↓wk9, ↓wk10, ↓wk11, ↓wt0, ↓wt1, ↓wt2, ↓wt3, ↓lv9, ↓fz9, ↓tbr9, ↓reduceIte, wu0, wu1, Nat.reduceEqDiff, Nat.reduceLT, Nat.reduceAdd, Nat.reduceMul, Nat.reduceSub, Nat.reduceDiv, reduceCtorEq, Int.reduceAdd, Int.reduceLE, Int.reduceLT, Int.reduceToNat, Int.reduceEq, Int.reduceBEq, Nat.reduceLeDiff, Nat.reduceLeDiff, UInt8.reduceToNat, leave_lvB, callD_cdB, lvK_lvB, lvP_lvB, r38, aadd, badd, cadd, asub, bsub, csub, amul, bmul, cmul, l1, l2, l3, r33, r34, h4, s34, h5, List.set_cons_zero, List.set_cons_succ, lq9_0, br_eq, br_same]
  unfold lpN
  conv => lhs; arg 2; whnf
  simp +contextual -implicitDefEqProofs (maxSteps := 10000000) only [↓wk0, ↓wk1, ↓wk2, ↓wk3, ↓wk4, ↓wk5, ↓wk6, ↓wk7, ↓wk8, ↓wk9, ↓wk10, ↓wk11, ↓wt0, ↓wt1, ↓wt2, ↓wt3, ↓lv9, ↓fz9, ↓tbr9, ↓reduceIte, wu0, wu1, Nat.reduceEqDiff, Nat.reduceLT, Nat.reduceAdd, Nat.reduceMul, Nat.reduceSub, Nat.reduceDiv, reduceCtorEq, Int.reduceAdd, Int.reduceLE, Int.reduceLT, Int.reduceToNat, Int.reduceEq, Int.reduceBEq, Nat.reduceLeDiff, Nat.reduceLeDiff, UInt8.reduceToNat, leave_lvB, callD_cdB, lvK_lvB, lvP_lvB, r38, aadd, badd, cadd, asub, bsub, csub, amul, bmul, cmul, l1, l2, l3, r33, r34, h4, s34, h5, List.set_cons_zero, List.set_cons_succ, lq9_0, br_eq, br_same]
  unfold lpN
  conv => lhs; arg 2; whnf
  simp +contextual -implicitDefEqProofs (maxSteps := 10000000) only [↓wk0, ↓wk1, ↓wk2, ↓wk3, ↓wk4, ↓wk5, ↓wk6, ↓wk7, ↓wk8, ↓wk9, ↓wk10, ↓wk11, ↓wt0, ↓wt1, ↓wt2, ↓wt3, ↓lv9, ↓fz9, ↓tbr9, ↓reduceIte, wu0, wu1, Nat.reduceEqDiff, Nat.reduceLT, Nat.reduceAdd, Nat.reduceMul, Nat.reduceSub, Nat.reduceDiv, reduceCtorEq, Int.reduceAdd, Int.reduceLE, Int.reduceLT, Int.reduceToNat, Int.reduceEq, Int.reduceBEq, Nat.reduceLeDiff, Nat.reduceLeDiff, UInt8.reduceToNat, leave_lvB, callD_cdB, lvK_lvB, lvP_lvB, d1, d2, d3, d4, d5, br_true, br_false, l1, l2, l3, r33, r34, h4, s34, h5, List.set_cons_zero, List.set_cons_succ, lq9_0, br_eq, br_same]
  refine (lpX_code (c' := lp Tryz.f9 1) (by kernel_rfl)).trans ?_
  rw [lq9_1]
  try simp +contextual -implicitDefEqProofs (maxSteps := 10000000) only [↓wk0, ↓wk1, ↓wk2, ↓wk3, ↓wk4, ↓wk5, ↓wk6, ↓wk7, ↓wk8, ↓wk9, ↓wk10, ↓wk11, ↓wt0, ↓wt1, ↓wt2, ↓wt3, ↓lv9, ↓fz9, ↓tbr9, ↓reduceIte, wu0, wu1, Nat.reduceEqDiff, Nat.reduceLT, Nat.reduceAdd, Nat.reduceMul, Nat.reduceSub, Nat.reduceDiv, reduceCtorEq, Int.reduceAdd, Int.reduceLE, Int.reduceLT, Int.reduceToNat, Int.reduceEq, Int.reduceBEq, Nat.reduceLeDiff, Nat.reduceLeDiff, UInt8.reduceToNat, leave_lvB, callD_cdB, lvK_lvB, lvP_lvB, l1, l2, l3, r33, r34, h4, s34, h5, List.set_cons_zero, List.set_cons_succ, br_eq, br_same]
  refine (rnd9_0.trans (rnd9_1.trans (rnd9_2.trans (rnd9_3.trans rnd9_4)))).trans ?_
  unfold lpN
  conv => lhs; arg 2; whnf
  simp +contextual -implicitDefEqProofs (maxSteps := 10000000) only [↓wk0, ↓wk1, ↓wk2, ↓wk3, ↓wk4, ↓wk5, ↓wk6, ↓wk7, ↓wk8, ↓wk9, ↓wk10, ↓wk11, ↓wt0, ↓wt1, ↓wt2, ↓wt3, ↓lv9, ↓fz9, ↓tbr9, ↓reduceIte, wu0, wu1, Nat.reduceEqDiff, Nat.reduceLT, Nat.reduceAdd, Nat.reduceMul, Nat.reduceSub, Nat.reduceDiv, reduceCtorEq, Int.reduceAdd, Int.reduceLE, Int.reduceLT, Int.reduceToNat, Int.reduceEq, Int.reduceBEq, Nat.reduceLeDiff, Nat.reduceLeDiff, UInt8.reduceToNat, leave_lvB, callD_cdB, lvK_lvB, lvP_lvB, evW_awake, lq9_1, l1, l2, l3, r33, r34, h4, s34, h5, List.set_cons_zero, List.set_cons_succ, br_eq, br_same]
theorem run9mff {xs bs : List Int} {p q : Int} (hx : isP xs = true) (hb : isP bs = true) (hl : xs.length = bs.length) (h4 : xs.all isBitB = true) (h5 : bs.all isBitB = true) (hu : lessF xs bs = false) (hv : eqB xs bs = false) : evW 9 [bitsA xs, bitsA bs, .agg [.int .i64 p, .int .i64 q]] [] = some (.ret (.bool true), []) := by
  obtain ⟨k1, k2⟩ := isP_le hx
  have l1 : decide ((xs.length : Int) < 1) = false := by simp; omega
  have l2 : decide (64 < (xs.length : Int)) = false := by simp; omega
  have l3 : (bs.length : Int) = xs.length := by omega
  have r33 := run33 (n := (xs.length : Int))
  have r34 := run34v (bs := xs) (by omega) (by omega)
  have s34 := run34v (bs := bs) (by omega) (by omega)
  rw [l3] at s34
  have aadd := run23add hx hb hl
  have badd := run35 hx hb hl
  have cadd := run17v (ys := (cmpF (fun x y => IntKind.u64.wrap (x + y)) xs bs)) (by rw [cmpF_length]; omega)
  have asub := run23sub hx hb hl
  have bsub := run36 hx hb hl
  have csub := run17v (ys := (cmpF (fun x y => IntKind.u64.wrap (x - y)) xs bs)) (by rw [cmpF_length]; omega)
  have amul := run23mul hx hb hl
  have bmul := run37 hx hb hl
  have cmul := run17v (ys := (cmpF (fun x y => IntKind.u64.wrap (x * y)) xs bs)) (by rw [cmpF_length]; omega)
  have r38 := run38 k1 k2
  have d1 := run23less hx hb hl
  have d2 := run39 hx hb hl
  rw [lessF_f hu] at d1
  rw [hu] at d2
  have d3 := run23eqf hx hb hl hv
  have d4 := run40v hx hb hl
  rw [hv] at d4
  have d5 := run23nef hx hb hl hv
  rw [w9 rfl]
  conv => lhs; arg 2; whnf
  simp +contextual -implicitDefEqProofs (maxSteps := 10000000) only [↓wk0, ↓wk1, ↓wk2, ↓wk3, ↓wk4, ↓wk5, ↓wk6, ↓wk7, ↓wk8, ↓wk9, ↓wk10, ↓wk11, ↓wt0, ↓wt1, ↓wt2, ↓wt3, ↓lv9, ↓fz9, ↓tbr9, ↓reduceIte, wu0, wu1, Nat.reduceEqDiff, Nat.reduceLT, Nat.reduceAdd, Nat.reduceMul, Nat.reduceSub, Nat.reduceDiv, reduceCtorEq, Int.reduceAdd, Int.reduceLE, Int.reduceLT, Int.reduceToNat, Int.reduceEq, Int.reduceBEq, Nat.reduceLeDiff, Nat.reduceLeDiff, UInt8.reduceToNat, leave_lvB, callD_cdB, lvK_lvB, lvP_lvB, l1, l2, l3, r33, r34, h4, s34, h5, List.set_cons_zero, List.set_cons_succ, br_eq, br_same]
  refine (lpX_code (c' := lp Tryz.f9 0) (by kernel_rfl)).trans ?_
  rw [lq9_0]
  simp +contextual -implicitDefEqProofs (maxSteps := 10000000) only [↓wk0, ↓wk1, ↓wk2, ↓wk3, ↓wk4, ↓wk5, ↓wk6, ↓wk7, ↓wk8, ↓wk9, ↓wk10, ↓wk11, ↓wt0, ↓wt1, ↓wt2, ↓wt3, ↓lv9, ↓fz9, ↓tbr9, ↓reduceIte, wu0, wu1, Nat.reduceEqDiff, Nat.reduceLT, Nat.reduceAdd, Nat.reduceMul, Nat.reduceSub, Nat.reduceDiv, reduceCtorEq, Int.reduceAdd, Int.reduceLE, Int.reduceLT, Int.reduceToNat, Int.reduceEq, Int.reduceBEq, Nat.reduceLeDiff, Nat.reduceLeDiff, UInt8.reduceToNat, leave_lvB, callD_cdB, lvK_lvB, lvP_lvB, l1, l2, l3, r33, r34, h4, s34, h5, List.set_cons_zero, List.set_cons_succ, br_eq, br_same]
  unfold lpN
  conv => lhs; arg 2; whnf
  simp +contextual -implicitDefEqProofs (maxSteps := 10000000) only [↓wk0, ↓wk1, ↓wk2, ↓wk3, ↓wk4, ↓wk5, ↓wk6, ↓wk7, ↓wk8, ↓wk9, ↓wk10, ↓wk11, ↓wt0, ↓wt1, ↓wt2, ↓wt3, ↓lv9, ↓fz9, ↓tbr9, ↓reduceIte, wu0, wu1, Nat.reduceEqDiff, Nat.reduceLT, Nat.reduceAdd, Nat.reduceMul, Nat.reduceSub, Nat.reduceDiv, reduceCtorEq, Int.reduceAdd, Int.reduceLE, Int.reduceLT, Int.reduceToNat, Int.reduceEq, Int.reduceBEq, Nat.reduceLeDiff, Nat.reduceLeDiff, UInt8.reduceToNat, leave_lvB, callD_cdB, lvK_lvB, lvP_lvB, r38, aadd, badd, cadd, asub, bsub, csub, amul, bmul, cmul, l1, l2, l3, r33, r34, h4, s34, h5, List.set_cons_zero, List.set_cons_succ, lq9_0, br_eq, br_same]
  unfold lpN
  conv => lhs; arg 2; whnf
  simp +contextual -implicitDefEqProofs (maxSteps := 10000000) only [↓wk0, ↓wk1, ↓wk2, ↓wk3, ↓wk4, ↓wk5, ↓wk6, ↓wk7, ↓wk8, ↓wk9, ↓wk10, ↓wk11, ↓wt0, ↓wt1, ↓wt2, ↓wt3, ↓lv9, ↓fz9, ↓tbr9, ↓reduceIte, wu0, wu1, Nat.reduceEqDiff, Nat.reduceLT, Nat.reduceAdd, Nat.reduceMul, Nat.reduceSub, Nat.reduceDiv, reduceCtorEq, Int.reduceAdd, Int.reduceLE, Int.reduceLT, Int.reduceToNat, Int.reduceEq, Int.reduceBEq, Nat.reduceLeDiff, Nat.reduceLeDiff, UInt8.reduceToNat, leave_lvB, callD_cdB, lvK_lvB, lvP_lvB, r38, aadd, badd, cadd, asub, bsub, csub, amul, bmul, cmul, l1, l2, l3, r33, r34, h4, s34, h5, List.set_cons_zero, List.set_cons_succ, lq9_0, br_eq, br_same]
  unfold lpN
  conv => lhs; arg 2; whnf
  simp +contextual -implicitDefEqProofs (maxSteps := 10000000) only [↓wk0, ↓wk1, ↓wk2, ↓wk3, ↓wk4, ↓wk5, ↓wk6, ↓wk7, ↓wk8, ↓wk9, ↓wk10, ↓wk11, ↓wt0, ↓wt1, ↓wt2, ↓wt3, ↓lv9, ↓fz9, ↓tbr9, ↓reduceIte, wu0, wu1, Nat.reduceEqDiff, Nat.reduceLT, Nat.reduceAdd, Nat.reduceMul, Nat.reduceSub, Nat.reduceDiv, reduceCtorEq, Int.reduceAdd, Int.reduceLE, Int.reduceLT, Int.reduceToNat, Int.reduceEq, Int.reduceBEq, Nat.reduceLeDiff, Nat.reduceLeDiff, UInt8.reduceToNat, leave_lvB, callD_cdB, lvK_lvB, lvP_lvB, r38, aadd, badd, cadd, asub, bsub, csub, amul, bmul, cmul, l1, l2, l3, r33, r34, h4, s34, h5, List.set_cons_zero, List.set_cons_succ, lq9_0, br_eq, br_same]
  unfold lpN
  conv => lhs; arg 2; whnf
  simp +contextual -implicitDefEqProofs (maxSteps := 10000000) only [↓wk0, ↓wk1, ↓wk2, ↓wk3, ↓wk4, ↓wk5, ↓wk6, ↓wk7, ↓wk8, ↓wk9, ↓wk10, ↓wk11, ↓wt0, ↓wt1, ↓wt2, ↓wt3, ↓lv9, ↓fz9, ↓tbr9, ↓reduceIte, wu0, wu1, Nat.reduceEqDiff, Nat.reduceLT, Nat.reduceAdd, Nat.reduceMul, Nat.reduceSub, Nat.reduceDiv, reduceCtorEq, Int.reduceAdd, Int.reduceLE, Int.reduceLT, Int.reduceToNat, Int.reduceEq, Int.reduceBEq, Nat.reduceLeDiff, Nat.reduceLeDiff, UInt8.reduceToNat, leave_lvB, callD_cdB, lvK_lvB, lvP_lvB, d1, d2, d3, d4, d5, br_true, br_false, l1, l2, l3, r33, r34, h4, s34, h5, List.set_cons_zero, List.set_cons_succ, lq9_0, br_eq, br_same]
  refine (lpX_code (c' := lp Tryz.f9 1) (by kernel_rfl)).trans ?_
  rw [lq9_1]
  try simp +contextual -implicitDefEqProofs (maxSteps := 10000000) only [↓wk0, ↓wk1, ↓wk2, ↓wk3, ↓wk4, ↓wk5, ↓wk6, ↓wk7, ↓wk8, ↓wk9, ↓wk10, ↓wk11, ↓wt0, ↓wt1, ↓wt2, ↓wt3, ↓lv9, ↓fz9, ↓tbr9, ↓reduceIte, wu0, wu1, Nat.reduceEqDiff, Nat.reduceLT, Nat.reduceAdd, Nat.reduceMul, Nat.reduceSub, Nat.reduceDiv, reduceCtorEq, Int.reduceAdd, Int.reduceLE, Int.reduceLT, Int.reduceToNat, Int.reduceEq, Int.reduceBEq, Nat.reduceLeDiff, Nat.reduceLeDiff, UInt8.reduceToNat, leave_lvB, callD_cdB, lvK_lvB, lvP_lvB, l1, l2, l3, r33, r34, h4, s34, h5, List.set_cons_zero, List.set_cons_succ, br_eq, br_same]
  refine (rnd9_0.trans (rnd9_1.trans (rnd9_2.trans (rnd9_3.trans rnd9_4)))).trans ?_
  unfold lpN
  conv => lhs; arg 2; whnf
  simp +contextual -implicitDefEqProofs (maxSteps := 10000000) only [↓wk0, ↓wk1, ↓wk2, ↓wk3, ↓wk4, ↓wk5, ↓wk6, ↓wk7, ↓wk8, ↓wk9, ↓wk10, ↓wk11, ↓wt0, ↓wt1, ↓wt2, ↓wt3, ↓lv9, ↓fz9, ↓tbr9, ↓reduceIte, wu0, wu1, Nat.reduceEqDiff, Nat.reduceLT, Nat.reduceAdd, Nat.reduceMul, Nat.reduceSub, Nat.reduceDiv, reduceCtorEq, Int.reduceAdd, Int.reduceLE, Int.reduceLT, Int.reduceToNat, Int.reduceEq, Int.reduceBEq, Nat.reduceLeDiff, Nat.reduceLeDiff, UInt8.reduceToNat, leave_lvB, callD_cdB, lvK_lvB, lvP_lvB, evW_awake, lq9_1, l1, l2, l3, r33, r34, h4, s34, h5, List.set_cons_zero, List.set_cons_succ, br_eq, br_same]
end Go.Proofs.YtdhcgankmhpgeaaGreat.M
namespace Go.Proofs.YtdhcgankmhpgeaaGreat.M
open Go
set_option linter.unusedSimpArgs false
set_option linter.unusedVariables false
set_option maxRecDepth 100000
set_option maxHeartbeats 4000000
attribute [local congr] br_congr ob2_congr cnd_congr gdK_congr ob_congr clK_congr finK_congr reg_congr pkK_congr kTK_congr dlT_congr gck_congr iff2_congr sel_congr dPn_congr apJ_congr nmK_congr kTo_congr fzO_congr rcK_congr lvB_congr crK_congr cdB_congr
theorem isP_of {xs : List Int} (h1 : 1 ≤ xs.length) (h2 : xs.length ≤ 64) (h3 : xs.all isBitB = true) : isP xs = true := by
  have h : (xs.any fun b => !decide (b ≤ 3)) = false := by
    rw [List.any_eq_false]
    intro b hb
    have := List.all_eq_true.mp h3 b hb
    simp [isBitB] at this
    simp
    omega
  unfold isP
  rw [h, decide_eq_true (by omega), decide_eq_true (by omega)]
  rfl
theorem run9 {xs bs : List Int} {p q : Int} : evW 9 [bitsA xs, bitsA bs, .agg [.int .i64 p, .int .i64 q]] [] = some (.ret (.bool true), []) := by
  by_cases h1 : xs.length < 1
  · exact run9a h1
  by_cases h2 : 64 < xs.length
  · exact run9b h2
  by_cases h3' : ¬ xs.length = bs.length
  · exact run9c (by omega) (by omega) h3'
  have h3 : xs.length = bs.length := Decidable.not_not.mp h3'
  cases h4 : xs.all isBitB with
  | false => exact run9d (by omega) (by omega) h3 h4
  | true =>
    cases h5 : bs.all isBitB with
    | false => exact run9e (by omega) (by omega) h3 h4 h5
    | true =>
      have hx := isP_of (by omega) (by omega) h4
      have hb := isP_of (xs := bs) (by omega) (by omega) h5
      cases hu : lessF xs bs <;> cases hv : eqB xs bs
      · exact run9mff hx hb h3 h4 h5 hu hv
      · exact run9mft hx hb h3 h4 h5 hu hv
      · exact run9mtf hx hb h3 h4 h5 hu hv
      · exact run9mtt hx hb h3 h4 h5 hu hv
end Go.Proofs.YtdhcgankmhpgeaaGreat.M
/- StaticVectors: its walk, out of what the evaluator answers. -/
namespace Go.Proofs.YtdhcgankmhpgeaaGreat.M
open Go Go.RowKit
set_option linter.unusedVariables false
theorem rep_bits0 {w : World} {I : Nat → Prop} {pl : Plan} {a : Option Addr} {c : Nat} (hm : c ≤ maxLen) : Rep w I pl (bitsA []) (.slice a 0 c) := by
  unfold bitsA
  simp only [Rep, List.map_nil]
  exact ⟨_, _, _, rfl, rfl, Nat.zero_le _, hm, .inl trivial⟩
theorem repE_bits {w : World} {g : Nat} : ∀ {xs : List Int} {off : Nat} (h : ∀ i z, xs[i]? = some z → cellAt w g (off + i) = some (.int .u8 z)), RepE w (old w) nopl 1 (xs.map fun b => [AV.int .u8 b]) g off
  | [], off, h => by simp only [List.map_nil, RepE]
  | x :: xs, off, h => by
    simp only [List.map_cons, RepE]
    refine ⟨rfl, ?_, repE_bits (fun i y hy => by have := h (i + 1) y (by simpa using hy); rwa [show off + 1 + i = off + (i + 1) by omega])⟩
    simp only [RepM]
    exact ⟨⟨_, h 0 x (by simp), rfl, by simp only [Rep]⟩, trivial⟩
theorem rep_bits (W : World) (x : Addr) (l c : Nat) (zs : List Int) (hl : l ≤ c) (hm : c ≤ maxLen) (hz : zs.length = c) (hcell : ∀ i, i < zs.length → W.cell? (x.add i) = some (.int .u8 (zs.getD i 0))) :
    ∃ xs : List Int, Rep W (old W) nopl (bitsA xs) (.slice (some x) l c) := by
  cases l with
  | zero => exact ⟨[], rep_bits0 hm⟩
  | succ l =>
    obtain ⟨g, off, spot⟩ := x
    have h0 := hcell 0 (by omega)
    have hs : spot = none := by
      cases spot with
      | none => rfl
      | some s =>
        exfalso
        simp only [World.cell?, Addr.add] at h0
        split at h0
        · simp at h0
        · cases h0
    subst hs
    have hg : g < W.heap.size := by
      simp only [World.cell?, Addr.add] at h0
      split at h0
      · rename_i hh
        exact (Array.getElem?_eq_some_iff.1 hh).1
      · cases h0
    refine ⟨zs.take (l + 1), ?_⟩
    unfold bitsA
    simp only [Rep]
    refine ⟨_, _, _, rfl, by simp; omega, hl, hm, .inr ⟨g, off, rfl, hg, repE_bits fun i z hi => ?_⟩⟩
    have hil := (List.getElem?_eq_some_iff.1 hi).1
    simp only [List.length_take] at hil
    rw [List.getElem?_take_of_lt (by omega)] at hi
    have := hcell i (by omega)
    rw [List.getD_eq_getElem?_getD, hi] at this
    simp only [Addr.add, Option.getD_some] at this
    unfold cellAt
    cases i with
    | zero => exact this
    | succ i => exact this
set_option maxRecDepth 100000 in
open Go.ChangeShapes Go.WideShapes Go.ChangeAt Go.Joins in
theorem open_pair {H : Type} {enc : TypeId × Value → H} {W : World} {base b0 : Nat} {spare : Nat → Bool} {held : Bool} {r : Reach} {v : Value} {d : DataW H} {p : List MemPlace} (hv : Value.okWide Tryz.prog W r b0 66 v) (h : DataW.Trod enc Tryz.prog W base spare held 66 v d p) :
    ∃ x y : Int, v = .agg #[.int .i64 x, .int .i64 y] := by
  obtain ⟨cs, rfl, hsz, _⟩ : ∃ cs, v = .agg cs ∧ cs.size = Tryz.prog.cellsOf 66 ∧ Row.okWide Tryz.prog W r b0 66 cs := by
    simpa [Value.okWide, Tryz.underlying66] using hv
  have c66 : Tryz.prog.cellsOf 66 = 2 := by kernel_rfl
  have c3 : Tryz.prog.cellsOf 3 = 1 := by kernel_rfl
  rw [c66] at hsz
  obtain ⟨c0, c1, rfl⟩ := array2 hsz
  obtain ⟨fuel, hf⟩ := h
  obtain ⟨xs, m, _, _, _, hl, hx⟩ := DataW.trod_array Tryz.underlying66 hf
  have h0 := hx 0 (by omega)
  have h1 := hx 1 (by omega)
  match xs, hl with
  | [y0, y1], _ =>
    simp [c3, Value.cells] at h0 h1
    obtain ⟨x0, e0, _, _⟩ := DataW.trod_int Tryz.underlying3 h0
    obtain ⟨x1, e1, _, _⟩ := DataW.trod_int Tryz.underlying3 h1
    simp at e0 e1
    subst e0 e1
    exact ⟨_, _, rfl⟩
theorem staticVectors_walk (w : World) {v0 v1 : Value} {xs ys : List Int} (h0 : Rep w (old w) nopl (bitsA xs) v0) (h1 : Rep w (old w) nopl (bitsA ys) v1) (p q : Int) :
    Calls Tryz.prog 9 #[v0, v1, .agg #[.int .i64 p, .int .i64 q]] w fun e w' => e = .returned (.bool true) ∧ Below w.heap.size w w' := by
  refine law_of_runs (evW_runs.1 (run9 (xs := xs) (bs := ys) (p := p) (q := q))) (vs := [v0, v1, .agg #[.int .i64 p, .int .i64 q]]) ?_
  simp only [RepL]
  refine ⟨_, _, rfl, h0, _, _, rfl, h1, _, _, rfl, ?_, rfl⟩
  simp only [Rep, RepL]
  exact ⟨[.int .i64 p, .int .i64 q], rfl, by simp [Value.oneCell'], _, _, rfl, rfl, _, _, rfl, rfl, rfl⟩
end Go.Proofs.YtdhcgankmhpgeaaGreat.M
