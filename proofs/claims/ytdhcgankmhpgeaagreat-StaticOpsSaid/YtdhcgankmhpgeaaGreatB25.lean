import Derived.Test.YtdhcgankmhpgeaaGreatB24
set_option linter.all false
namespace Go.Proofs.YtdhcgankmhpgeaaGreat.M
open Go
open Nat renaming reduceEqDiff → xA, reduceLT → xB, reduceAdd → xC, reduceMul → xD, reduceSub → xE, reduceDiv → xF, reduceLeDiff → xN
open Int renaming reduceAdd → xH, reduceLE → xI, reduceLT → xJ, reduceToNat → xK, reduceEq → xL, reduceBEq → xM
open UInt8 renaming reduceToNat → xO
set_option maxRecDepth 100000
set_option maxHeartbeats 4000000
attribute [local congr] br_congr ob2_congr cnd_congr gdK_congr ob_congr clK_congr finK_congr reg_congr pkK_congr kTK_congr dlT_congr gck_congr iff2_congr sel_congr dPn_congr apJ_congr nmK_congr kTo_congr fzO_congr rcK_congr lvB_congr crK_congr cdB_congr
theorem cmp_len{op:Int→Int→Int}{u v:LI}:(cmpF op u v).length=u.length:=by
 unfold cmpF
 cases (knownB u&&knownB v)
 ·show (List.replicate u.length (2:Int)).length=_
  simp
 ·show (ofL _ u.length 0 (List.replicate u.length 0)).length=_
  rw [ofL_fill,fillC_len]
  simp
theorem val_vadd{u v:LI}(hu:isP u=true)(hv:isP v=true)(u0:∀ b∈u,(0:Int)≤b)(v0:∀ b∈v,(0:Int)≤b)(hl:u.length=v.length):evW 79 [.str [43],.sl 4 [[iA 4,iA 0,bitsA u,.sl 4 []],[iA 4,iA 0,bitsA v,.sl 4 []]]] []=oR (.tup [vl 4 0 (bitsA (cmpF (fun x y=>IntKind.u64.wrap (x+y)) u v)),okE]):=by
 have h1:=ref_add hu hv u0 v0 hl
 have h165:=run165 (v:=cmpF (fun x y=>IntKind.u64.wrap (x+y)) u v) (by rw [cmp_len];exact(isP_len hu).2)
 simp only [bitsA] at h1 h165
 rw [w79 rfl]
 conv=>lhs;arg 2;whnf
 simp +contextual -implicitDefEqProofs (maxSteps:=9^9) only [↓wkA,↓lv79,↓fz79,↓tbr79,wuH,↓reduceIte,xA,xB,xC,xD,xE,xF,reduceCtorEq,xH,xI,xJ,xK,xL,xM,xN,xO,h1,h165,bitsA,wbr]
theorem val_vsub{u v:LI}(hu:isP u=true)(hv:isP v=true)(u0:∀ b∈u,(0:Int)≤b)(v0:∀ b∈v,(0:Int)≤b)(hl:u.length=v.length):evW 79 [.str [45],.sl 4 [[iA 4,iA 0,bitsA u,.sl 4 []],[iA 4,iA 0,bitsA v,.sl 4 []]]] []=oR (.tup [vl 4 0 (bitsA (cmpF (fun x y=>IntKind.u64.wrap (x-y)) u v)),okE]):=by
 have h1:=ref_sub hu hv u0 v0 hl
 have h165:=run165 (v:=cmpF (fun x y=>IntKind.u64.wrap (x-y)) u v) (by rw [cmp_len];exact(isP_len hu).2)
 simp only [bitsA] at h1 h165
 rw [w79 rfl]
 conv=>lhs;arg 2;whnf
 simp +contextual -implicitDefEqProofs (maxSteps:=9^9) only [↓wkA,↓lv79,↓fz79,↓tbr79,wuH,↓reduceIte,xA,xB,xC,xD,xE,xF,reduceCtorEq,xH,xI,xJ,xK,xL,xM,xN,xO,h1,h165,bitsA,wbr]
theorem val_vmul{u v:LI}(hu:isP u=true)(hv:isP v=true)(u0:∀ b∈u,(0:Int)≤b)(v0:∀ b∈v,(0:Int)≤b)(hl:u.length=v.length):evW 79 [.str [42],.sl 4 [[iA 4,iA 0,bitsA u,.sl 4 []],[iA 4,iA 0,bitsA v,.sl 4 []]]] []=oR (.tup [vl 4 0 (bitsA (cmpF (fun x y=>IntKind.u64.wrap (x*y)) u v)),okE]):=by
 have h1:=ref_mul hu hv u0 v0 hl
 have h165:=run165 (v:=cmpF (fun x y=>IntKind.u64.wrap (x*y)) u v) (by rw [cmp_len];exact(isP_len hu).2)
 simp only [bitsA] at h1 h165
 rw [w79 rfl]
 conv=>lhs;arg 2;whnf
 simp +contextual -implicitDefEqProofs (maxSteps:=9^9) only [↓wkA,↓lv79,↓fz79,↓tbr79,wuH,↓reduceIte,xA,xB,xC,xD,xE,xF,reduceCtorEq,xH,xI,xJ,xK,xL,xM,xN,xO,h1,h165,bitsA,wbr]
theorem o161ltm:evW 161 [.str [60],iA (-1)] []=oR (.bool true):=ev_le 20 161 _ _ _ (by kernel_rfl)
theorem o161ltz:evW 161 [.str [60],iA (0)] []=oR (.bool false):=ev_le 20 161 _ _ _ (by kernel_rfl)
theorem o161ltp:evW 161 [.str [60],iA (1)] []=oR (.bool false):=ev_le 20 161 _ _ _ (by kernel_rfl)
theorem val_vlt_a{u v:LI}{x y e f:Int}(hA:evW 162 [bitsA u] []=oR (.tup [.int .u64 x,iA e]))(hB:evW 162 [bitsA v] []=oR (.tup [.int .u64 y,iA f]))(q:(e==0)=false):evW 79 [.str [60],.sl 4 [[iA 4,iA 0,bitsA u,.sl 4 []],[iA 4,iA 0,bitsA v,.sl 4 []]]] []=oR (.tup [vl 2 0 (.sl 1 []),okE]):=by
 simp only [bitsA] at hA hB
 rw [w79 rfl]
 conv=>lhs;arg 2;whnf
 simp +contextual -implicitDefEqProofs (maxSteps:=9^9) only [↓wkA,↓lv79,↓fz79,↓tbr79,wuH,↓reduceIte,xA,xB,xC,xD,xE,xF,reduceCtorEq,xH,xI,xJ,xK,xL,xM,xN,xO,hA,hB,bitsA,run158,o161ltm,o161ltz,o161ltp,q,wbr]
theorem val_vlt_b{u v:LI}{x y e f:Int}(hA:evW 162 [bitsA u] []=oR (.tup [.int .u64 x,iA e]))(hB:evW 162 [bitsA v] []=oR (.tup [.int .u64 y,iA f]))(q:(e==0)=true)(q2:(f==0)=false):evW 79 [.str [60],.sl 4 [[iA 4,iA 0,bitsA u,.sl 4 []],[iA 4,iA 0,bitsA v,.sl 4 []]]] []=oR (.tup [vl 2 0 (.sl 1 []),okE]):=by
 simp only [bitsA] at hA hB
 rw [w79 rfl]
 conv=>lhs;arg 2;whnf
 simp +contextual -implicitDefEqProofs (maxSteps:=9^9) only [↓wkA,↓lv79,↓fz79,↓tbr79,wuH,↓reduceIte,xA,xB,xC,xD,xE,xF,reduceCtorEq,xH,xI,xJ,xK,xL,xM,xN,xO,hA,hB,bitsA,run158,o161ltm,o161ltz,o161ltp,q,q2,wbr]
theorem val_vlt_l{u v:LI}{x y e f:Int}(hA:evW 162 [bitsA u] []=oR (.tup [.int .u64 x,iA e]))(hB:evW 162 [bitsA v] []=oR (.tup [.int .u64 y,iA f]))(q:(e==0)=true)(q2:(f==0)=true)(c1:decide (x<y)=true)(c2:decide (y<x)=false):evW 79 [.str [60],.sl 4 [[iA 4,iA 0,bitsA u,.sl 4 []],[iA 4,iA 0,bitsA v,.sl 4 []]]] []=oR (.tup [vl 2 1 (.sl 1 []),okE]):=by
 simp only [bitsA] at hA hB
 rw [w79 rfl]
 conv=>lhs;arg 2;whnf
 simp +contextual -implicitDefEqProofs (maxSteps:=9^9) only [↓wkA,↓lv79,↓fz79,↓tbr79,wuH,↓reduceIte,xA,xB,xC,xD,xE,xF,reduceCtorEq,xH,xI,xJ,xK,xL,xM,xN,xO,hA,hB,bitsA,run158,o161ltm,o161ltz,o161ltp,q,q2,c1,c2,wbr]
theorem val_vlt_e{u v:LI}{x y e f:Int}(hA:evW 162 [bitsA u] []=oR (.tup [.int .u64 x,iA e]))(hB:evW 162 [bitsA v] []=oR (.tup [.int .u64 y,iA f]))(q:(e==0)=true)(q2:(f==0)=true)(c1:decide (x<y)=false)(c2:decide (y<x)=false):evW 79 [.str [60],.sl 4 [[iA 4,iA 0,bitsA u,.sl 4 []],[iA 4,iA 0,bitsA v,.sl 4 []]]] []=oR (.tup [vl 2 0 (.sl 1 []),okE]):=by
 simp only [bitsA] at hA hB
 rw [w79 rfl]
 conv=>lhs;arg 2;whnf
 simp +contextual -implicitDefEqProofs (maxSteps:=9^9) only [↓wkA,↓lv79,↓fz79,↓tbr79,wuH,↓reduceIte,xA,xB,xC,xD,xE,xF,reduceCtorEq,xH,xI,xJ,xK,xL,xM,xN,xO,hA,hB,bitsA,run158,o161ltm,o161ltz,o161ltp,q,q2,c1,c2,wbr]
theorem val_vlt_g{u v:LI}{x y e f:Int}(hA:evW 162 [bitsA u] []=oR (.tup [.int .u64 x,iA e]))(hB:evW 162 [bitsA v] []=oR (.tup [.int .u64 y,iA f]))(q:(e==0)=true)(q2:(f==0)=true)(c1:decide (x<y)=false)(c2:decide (y<x)=true):evW 79 [.str [60],.sl 4 [[iA 4,iA 0,bitsA u,.sl 4 []],[iA 4,iA 0,bitsA v,.sl 4 []]]] []=oR (.tup [vl 2 0 (.sl 1 []),okE]):=by
 simp only [bitsA] at hA hB
 rw [w79 rfl]
 conv=>lhs;arg 2;whnf
 simp +contextual -implicitDefEqProofs (maxSteps:=9^9) only [↓wkA,↓lv79,↓fz79,↓tbr79,wuH,↓reduceIte,xA,xB,xC,xD,xE,xF,reduceCtorEq,xH,xI,xJ,xK,xL,xM,xN,xO,hA,hB,bitsA,run158,o161ltm,o161ltz,o161ltp,q,q2,c1,c2,wbr]
theorem o161lem:evW 161 [.str [60,61],iA (-1)] []=oR (.bool true):=ev_le 20 161 _ _ _ (by kernel_rfl)
theorem o161lez:evW 161 [.str [60,61],iA (0)] []=oR (.bool true):=ev_le 20 161 _ _ _ (by kernel_rfl)
theorem o161lep:evW 161 [.str [60,61],iA (1)] []=oR (.bool false):=ev_le 20 161 _ _ _ (by kernel_rfl)
theorem val_vle_a{u v:LI}{x y e f:Int}(hA:evW 162 [bitsA u] []=oR (.tup [.int .u64 x,iA e]))(hB:evW 162 [bitsA v] []=oR (.tup [.int .u64 y,iA f]))(q:(e==0)=false):evW 79 [.str [60,61],.sl 4 [[iA 4,iA 0,bitsA u,.sl 4 []],[iA 4,iA 0,bitsA v,.sl 4 []]]] []=oR (.tup [vl 2 0 (.sl 1 []),okE]):=by
 simp only [bitsA] at hA hB
 rw [w79 rfl]
 conv=>lhs;arg 2;whnf
 simp +contextual -implicitDefEqProofs (maxSteps:=9^9) only [↓wkA,↓lv79,↓fz79,↓tbr79,wuH,↓reduceIte,xA,xB,xC,xD,xE,xF,reduceCtorEq,xH,xI,xJ,xK,xL,xM,xN,xO,hA,hB,bitsA,run158,o161lem,o161lez,o161lep,q,wbr]
theorem val_vle_b{u v:LI}{x y e f:Int}(hA:evW 162 [bitsA u] []=oR (.tup [.int .u64 x,iA e]))(hB:evW 162 [bitsA v] []=oR (.tup [.int .u64 y,iA f]))(q:(e==0)=true)(q2:(f==0)=false):evW 79 [.str [60,61],.sl 4 [[iA 4,iA 0,bitsA u,.sl 4 []],[iA 4,iA 0,bitsA v,.sl 4 []]]] []=oR (.tup [vl 2 0 (.sl 1 []),okE]):=by
 simp only [bitsA] at hA hB
 rw [w79 rfl]
 conv=>lhs;arg 2;whnf
 simp +contextual -implicitDefEqProofs (maxSteps:=9^9) only [↓wkA,↓lv79,↓fz79,↓tbr79,wuH,↓reduceIte,xA,xB,xC,xD,xE,xF,reduceCtorEq,xH,xI,xJ,xK,xL,xM,xN,xO,hA,hB,bitsA,run158,o161lem,o161lez,o161lep,q,q2,wbr]
theorem val_vle_l{u v:LI}{x y e f:Int}(hA:evW 162 [bitsA u] []=oR (.tup [.int .u64 x,iA e]))(hB:evW 162 [bitsA v] []=oR (.tup [.int .u64 y,iA f]))(q:(e==0)=true)(q2:(f==0)=true)(c1:decide (x<y)=true)(c2:decide (y<x)=false):evW 79 [.str [60,61],.sl 4 [[iA 4,iA 0,bitsA u,.sl 4 []],[iA 4,iA 0,bitsA v,.sl 4 []]]] []=oR (.tup [vl 2 1 (.sl 1 []),okE]):=by
 simp only [bitsA] at hA hB
 rw [w79 rfl]
 conv=>lhs;arg 2;whnf
 simp +contextual -implicitDefEqProofs (maxSteps:=9^9) only [↓wkA,↓lv79,↓fz79,↓tbr79,wuH,↓reduceIte,xA,xB,xC,xD,xE,xF,reduceCtorEq,xH,xI,xJ,xK,xL,xM,xN,xO,hA,hB,bitsA,run158,o161lem,o161lez,o161lep,q,q2,c1,c2,wbr]
theorem val_vle_e{u v:LI}{x y e f:Int}(hA:evW 162 [bitsA u] []=oR (.tup [.int .u64 x,iA e]))(hB:evW 162 [bitsA v] []=oR (.tup [.int .u64 y,iA f]))(q:(e==0)=true)(q2:(f==0)=true)(c1:decide (x<y)=false)(c2:decide (y<x)=false):evW 79 [.str [60,61],.sl 4 [[iA 4,iA 0,bitsA u,.sl 4 []],[iA 4,iA 0,bitsA v,.sl 4 []]]] []=oR (.tup [vl 2 1 (.sl 1 []),okE]):=by
 simp only [bitsA] at hA hB
 rw [w79 rfl]
 conv=>lhs;arg 2;whnf
 simp +contextual -implicitDefEqProofs (maxSteps:=9^9) only [↓wkA,↓lv79,↓fz79,↓tbr79,wuH,↓reduceIte,xA,xB,xC,xD,xE,xF,reduceCtorEq,xH,xI,xJ,xK,xL,xM,xN,xO,hA,hB,bitsA,run158,o161lem,o161lez,o161lep,q,q2,c1,c2,wbr]
theorem val_vle_g{u v:LI}{x y e f:Int}(hA:evW 162 [bitsA u] []=oR (.tup [.int .u64 x,iA e]))(hB:evW 162 [bitsA v] []=oR (.tup [.int .u64 y,iA f]))(q:(e==0)=true)(q2:(f==0)=true)(c1:decide (x<y)=false)(c2:decide (y<x)=true):evW 79 [.str [60,61],.sl 4 [[iA 4,iA 0,bitsA u,.sl 4 []],[iA 4,iA 0,bitsA v,.sl 4 []]]] []=oR (.tup [vl 2 0 (.sl 1 []),okE]):=by
 simp only [bitsA] at hA hB
 rw [w79 rfl]
 conv=>lhs;arg 2;whnf
 simp +contextual -implicitDefEqProofs (maxSteps:=9^9) only [↓wkA,↓lv79,↓fz79,↓tbr79,wuH,↓reduceIte,xA,xB,xC,xD,xE,xF,reduceCtorEq,xH,xI,xJ,xK,xL,xM,xN,xO,hA,hB,bitsA,run158,o161lem,o161lez,o161lep,q,q2,c1,c2,wbr]
theorem o161gtm:evW 161 [.str [62],iA (-1)] []=oR (.bool false):=ev_le 20 161 _ _ _ (by kernel_rfl)
theorem o161gtz:evW 161 [.str [62],iA (0)] []=oR (.bool false):=ev_le 20 161 _ _ _ (by kernel_rfl)
theorem o161gtp:evW 161 [.str [62],iA (1)] []=oR (.bool true):=ev_le 20 161 _ _ _ (by kernel_rfl)
theorem val_vgt_a{u v:LI}{x y e f:Int}(hA:evW 162 [bitsA u] []=oR (.tup [.int .u64 x,iA e]))(hB:evW 162 [bitsA v] []=oR (.tup [.int .u64 y,iA f]))(q:(e==0)=false):evW 79 [.str [62],.sl 4 [[iA 4,iA 0,bitsA u,.sl 4 []],[iA 4,iA 0,bitsA v,.sl 4 []]]] []=oR (.tup [vl 2 0 (.sl 1 []),okE]):=by
 simp only [bitsA] at hA hB
 rw [w79 rfl]
 conv=>lhs;arg 2;whnf
 simp +contextual -implicitDefEqProofs (maxSteps:=9^9) only [↓wkA,↓lv79,↓fz79,↓tbr79,wuH,↓reduceIte,xA,xB,xC,xD,xE,xF,reduceCtorEq,xH,xI,xJ,xK,xL,xM,xN,xO,hA,hB,bitsA,run158,o161gtm,o161gtz,o161gtp,q,wbr]
theorem val_vgt_b{u v:LI}{x y e f:Int}(hA:evW 162 [bitsA u] []=oR (.tup [.int .u64 x,iA e]))(hB:evW 162 [bitsA v] []=oR (.tup [.int .u64 y,iA f]))(q:(e==0)=true)(q2:(f==0)=false):evW 79 [.str [62],.sl 4 [[iA 4,iA 0,bitsA u,.sl 4 []],[iA 4,iA 0,bitsA v,.sl 4 []]]] []=oR (.tup [vl 2 0 (.sl 1 []),okE]):=by
 simp only [bitsA] at hA hB
 rw [w79 rfl]
 conv=>lhs;arg 2;whnf
 simp +contextual -implicitDefEqProofs (maxSteps:=9^9) only [↓wkA,↓lv79,↓fz79,↓tbr79,wuH,↓reduceIte,xA,xB,xC,xD,xE,xF,reduceCtorEq,xH,xI,xJ,xK,xL,xM,xN,xO,hA,hB,bitsA,run158,o161gtm,o161gtz,o161gtp,q,q2,wbr]
theorem val_vgt_l{u v:LI}{x y e f:Int}(hA:evW 162 [bitsA u] []=oR (.tup [.int .u64 x,iA e]))(hB:evW 162 [bitsA v] []=oR (.tup [.int .u64 y,iA f]))(q:(e==0)=true)(q2:(f==0)=true)(c1:decide (x<y)=true)(c2:decide (y<x)=false):evW 79 [.str [62],.sl 4 [[iA 4,iA 0,bitsA u,.sl 4 []],[iA 4,iA 0,bitsA v,.sl 4 []]]] []=oR (.tup [vl 2 0 (.sl 1 []),okE]):=by
 simp only [bitsA] at hA hB
 rw [w79 rfl]
 conv=>lhs;arg 2;whnf
 simp +contextual -implicitDefEqProofs (maxSteps:=9^9) only [↓wkA,↓lv79,↓fz79,↓tbr79,wuH,↓reduceIte,xA,xB,xC,xD,xE,xF,reduceCtorEq,xH,xI,xJ,xK,xL,xM,xN,xO,hA,hB,bitsA,run158,o161gtm,o161gtz,o161gtp,q,q2,c1,c2,wbr]
theorem val_vgt_e{u v:LI}{x y e f:Int}(hA:evW 162 [bitsA u] []=oR (.tup [.int .u64 x,iA e]))(hB:evW 162 [bitsA v] []=oR (.tup [.int .u64 y,iA f]))(q:(e==0)=true)(q2:(f==0)=true)(c1:decide (x<y)=false)(c2:decide (y<x)=false):evW 79 [.str [62],.sl 4 [[iA 4,iA 0,bitsA u,.sl 4 []],[iA 4,iA 0,bitsA v,.sl 4 []]]] []=oR (.tup [vl 2 0 (.sl 1 []),okE]):=by
 simp only [bitsA] at hA hB
 rw [w79 rfl]
 conv=>lhs;arg 2;whnf
 simp +contextual -implicitDefEqProofs (maxSteps:=9^9) only [↓wkA,↓lv79,↓fz79,↓tbr79,wuH,↓reduceIte,xA,xB,xC,xD,xE,xF,reduceCtorEq,xH,xI,xJ,xK,xL,xM,xN,xO,hA,hB,bitsA,run158,o161gtm,o161gtz,o161gtp,q,q2,c1,c2,wbr]
theorem val_vgt_g{u v:LI}{x y e f:Int}(hA:evW 162 [bitsA u] []=oR (.tup [.int .u64 x,iA e]))(hB:evW 162 [bitsA v] []=oR (.tup [.int .u64 y,iA f]))(q:(e==0)=true)(q2:(f==0)=true)(c1:decide (x<y)=false)(c2:decide (y<x)=true):evW 79 [.str [62],.sl 4 [[iA 4,iA 0,bitsA u,.sl 4 []],[iA 4,iA 0,bitsA v,.sl 4 []]]] []=oR (.tup [vl 2 1 (.sl 1 []),okE]):=by
 simp only [bitsA] at hA hB
 rw [w79 rfl]
 conv=>lhs;arg 2;whnf
 simp +contextual -implicitDefEqProofs (maxSteps:=9^9) only [↓wkA,↓lv79,↓fz79,↓tbr79,wuH,↓reduceIte,xA,xB,xC,xD,xE,xF,reduceCtorEq,xH,xI,xJ,xK,xL,xM,xN,xO,hA,hB,bitsA,run158,o161gtm,o161gtz,o161gtp,q,q2,c1,c2,wbr]
theorem o161gem:evW 161 [.str [62,61],iA (-1)] []=oR (.bool false):=ev_le 20 161 _ _ _ (by kernel_rfl)
theorem o161gez:evW 161 [.str [62,61],iA (0)] []=oR (.bool true):=ev_le 20 161 _ _ _ (by kernel_rfl)
theorem o161gep:evW 161 [.str [62,61],iA (1)] []=oR (.bool true):=ev_le 20 161 _ _ _ (by kernel_rfl)
theorem val_vge_a{u v:LI}{x y e f:Int}(hA:evW 162 [bitsA u] []=oR (.tup [.int .u64 x,iA e]))(hB:evW 162 [bitsA v] []=oR (.tup [.int .u64 y,iA f]))(q:(e==0)=false):evW 79 [.str [62,61],.sl 4 [[iA 4,iA 0,bitsA u,.sl 4 []],[iA 4,iA 0,bitsA v,.sl 4 []]]] []=oR (.tup [vl 2 0 (.sl 1 []),okE]):=by
 simp only [bitsA] at hA hB
 rw [w79 rfl]
 conv=>lhs;arg 2;whnf
 simp +contextual -implicitDefEqProofs (maxSteps:=9^9) only [↓wkA,↓lv79,↓fz79,↓tbr79,wuH,↓reduceIte,xA,xB,xC,xD,xE,xF,reduceCtorEq,xH,xI,xJ,xK,xL,xM,xN,xO,hA,hB,bitsA,run158,o161gem,o161gez,o161gep,q,wbr]
theorem val_vge_b{u v:LI}{x y e f:Int}(hA:evW 162 [bitsA u] []=oR (.tup [.int .u64 x,iA e]))(hB:evW 162 [bitsA v] []=oR (.tup [.int .u64 y,iA f]))(q:(e==0)=true)(q2:(f==0)=false):evW 79 [.str [62,61],.sl 4 [[iA 4,iA 0,bitsA u,.sl 4 []],[iA 4,iA 0,bitsA v,.sl 4 []]]] []=oR (.tup [vl 2 0 (.sl 1 []),okE]):=by
 simp only [bitsA] at hA hB
 rw [w79 rfl]
 conv=>lhs;arg 2;whnf
 simp +contextual -implicitDefEqProofs (maxSteps:=9^9) only [↓wkA,↓lv79,↓fz79,↓tbr79,wuH,↓reduceIte,xA,xB,xC,xD,xE,xF,reduceCtorEq,xH,xI,xJ,xK,xL,xM,xN,xO,hA,hB,bitsA,run158,o161gem,o161gez,o161gep,q,q2,wbr]
theorem val_vge_l{u v:LI}{x y e f:Int}(hA:evW 162 [bitsA u] []=oR (.tup [.int .u64 x,iA e]))(hB:evW 162 [bitsA v] []=oR (.tup [.int .u64 y,iA f]))(q:(e==0)=true)(q2:(f==0)=true)(c1:decide (x<y)=true)(c2:decide (y<x)=false):evW 79 [.str [62,61],.sl 4 [[iA 4,iA 0,bitsA u,.sl 4 []],[iA 4,iA 0,bitsA v,.sl 4 []]]] []=oR (.tup [vl 2 0 (.sl 1 []),okE]):=by
 simp only [bitsA] at hA hB
 rw [w79 rfl]
 conv=>lhs;arg 2;whnf
 simp +contextual -implicitDefEqProofs (maxSteps:=9^9) only [↓wkA,↓lv79,↓fz79,↓tbr79,wuH,↓reduceIte,xA,xB,xC,xD,xE,xF,reduceCtorEq,xH,xI,xJ,xK,xL,xM,xN,xO,hA,hB,bitsA,run158,o161gem,o161gez,o161gep,q,q2,c1,c2,wbr]
theorem val_vge_e{u v:LI}{x y e f:Int}(hA:evW 162 [bitsA u] []=oR (.tup [.int .u64 x,iA e]))(hB:evW 162 [bitsA v] []=oR (.tup [.int .u64 y,iA f]))(q:(e==0)=true)(q2:(f==0)=true)(c1:decide (x<y)=false)(c2:decide (y<x)=false):evW 79 [.str [62,61],.sl 4 [[iA 4,iA 0,bitsA u,.sl 4 []],[iA 4,iA 0,bitsA v,.sl 4 []]]] []=oR (.tup [vl 2 1 (.sl 1 []),okE]):=by
 simp only [bitsA] at hA hB
 rw [w79 rfl]
 conv=>lhs;arg 2;whnf
 simp +contextual -implicitDefEqProofs (maxSteps:=9^9) only [↓wkA,↓lv79,↓fz79,↓tbr79,wuH,↓reduceIte,xA,xB,xC,xD,xE,xF,reduceCtorEq,xH,xI,xJ,xK,xL,xM,xN,xO,hA,hB,bitsA,run158,o161gem,o161gez,o161gep,q,q2,c1,c2,wbr]
theorem val_vge_g{u v:LI}{x y e f:Int}(hA:evW 162 [bitsA u] []=oR (.tup [.int .u64 x,iA e]))(hB:evW 162 [bitsA v] []=oR (.tup [.int .u64 y,iA f]))(q:(e==0)=true)(q2:(f==0)=true)(c1:decide (x<y)=false)(c2:decide (y<x)=true):evW 79 [.str [62,61],.sl 4 [[iA 4,iA 0,bitsA u,.sl 4 []],[iA 4,iA 0,bitsA v,.sl 4 []]]] []=oR (.tup [vl 2 1 (.sl 1 []),okE]):=by
 simp only [bitsA] at hA hB
 rw [w79 rfl]
 conv=>lhs;arg 2;whnf
 simp +contextual -implicitDefEqProofs (maxSteps:=9^9) only [↓wkA,↓lv79,↓fz79,↓tbr79,wuH,↓reduceIte,xA,xB,xC,xD,xE,xF,reduceCtorEq,xH,xI,xJ,xK,xL,xM,xN,xO,hA,hB,bitsA,run158,o161gem,o161gez,o161gep,q,q2,c1,c2,wbr]
end Go.Proofs.YtdhcgankmhpgeaaGreat.M
namespace Go.Proofs.YtdhcgankmhpgeaaGreat.M
open Go
set_option maxRecDepth 100000
set_option maxHeartbeats 4000000
attribute [local congr] br_congr ob2_congr cnd_congr gdK_congr ob_congr clK_congr finK_congr reg_congr pkK_congr kTK_congr dlT_congr gck_congr iff2_congr sel_congr dPn_congr apJ_congr nmK_congr kTo_congr fzO_congr rcK_congr lvB_congr crK_congr cdB_congr
theorem less_val{u v:LI}(hu:isP u=true)(hv:isP v=true)(u0:∀ b∈u,(0:Int)≤b)(v0:∀ b∈v,(0:Int)≤b)(q0:knownR u=true)(q1:knownR v=true):lessF u v=decide (valN u<valN v):=by
 unfold lessF
 rw [known_eq hu,known_eq hv,q0,q1,num_val (bin_of q0 u0) (isP_len hu).2,num_val (bin_of q1 v0) (isP_len hv).2]
 rfl
theorem both_vlt{u v:LI}(hu:isP u=true)(hv:isP v=true)(u0:∀ b∈u,(0:Int)≤b)(v0:∀ b∈v,(0:Int)≤b)(hl:u.length=v.length):evW 79 [.str [60],.sl 4 [[iA 4,iA 0,bitsA u,.sl 4 []],[iA 4,iA 0,bitsA v,.sl 4 []]]] []=oR (.tup [vl 2 (br ((lessF u v)&&(knownB u&&knownB v)) 1 0) (.sl 1 []),okE]):=by
 rw [known_eq hu,known_eq hv]
 cases q0:knownR u with
 | false =>
   cases q1:knownR v with
   | false=>exact(val_vlt_a (run162e hu u0 q0) (run162e hv v0 q1) rfl).trans (by simp [br])
   | true=>exact(val_vlt_a (run162e hu u0 q0) (run162 hv v0 q1) rfl).trans (by simp [br])
 | true =>
   cases q1:knownR v with
   | false=>exact(val_vlt_b (run162 hu u0 q0) (run162e hv v0 q1) rfl rfl).trans (by simp [br])
   | true =>
     rw [less_val hu hv u0 v0 q0 q1]
     have a:=run162 hu u0 q0
     have b:=run162 hv v0 q1
     cases c1:decide (valN u<valN v)<;>cases c2:decide (valN v<valN u)
     ·exact val_vlt_e a b rfl rfl c1 c2
     ·exact val_vlt_g a b rfl rfl c1 c2
     ·exact val_vlt_l a b rfl rfl c1 c2
     ·simp at c1 c2
      omega
theorem both_vgt{u v:LI}(hu:isP u=true)(hv:isP v=true)(u0:∀ b∈u,(0:Int)≤b)(v0:∀ b∈v,(0:Int)≤b)(hl:u.length=v.length):evW 79 [.str [62],.sl 4 [[iA 4,iA 0,bitsA u,.sl 4 []],[iA 4,iA 0,bitsA v,.sl 4 []]]] []=oR (.tup [vl 2 (br ((lessF v u)&&(knownB u&&knownB v)) 1 0) (.sl 1 []),okE]):=by
 rw [known_eq hu,known_eq hv]
 cases q0:knownR u with
 | false =>
   cases q1:knownR v with
   | false=>exact(val_vgt_a (run162e hu u0 q0) (run162e hv v0 q1) rfl).trans (by simp [br])
   | true=>exact(val_vgt_a (run162e hu u0 q0) (run162 hv v0 q1) rfl).trans (by simp [br])
 | true =>
   cases q1:knownR v with
   | false=>exact(val_vgt_b (run162 hu u0 q0) (run162e hv v0 q1) rfl rfl).trans (by simp [br])
   | true =>
     rw [less_val hv hu v0 u0 q1 q0]
     have a:=run162 hu u0 q0
     have b:=run162 hv v0 q1
     cases c1:decide (valN u<valN v)<;>cases c2:decide (valN v<valN u)
     ·exact val_vgt_e a b rfl rfl c1 c2
     ·exact val_vgt_g a b rfl rfl c1 c2
     ·exact val_vgt_l a b rfl rfl c1 c2
     ·simp at c1 c2
      omega
theorem both_vle{u v:LI}(hu:isP u=true)(hv:isP v=true)(u0:∀ b∈u,(0:Int)≤b)(v0:∀ b∈v,(0:Int)≤b)(hl:u.length=v.length):evW 79 [.str [60,61],.sl 4 [[iA 4,iA 0,bitsA u,.sl 4 []],[iA 4,iA 0,bitsA v,.sl 4 []]]] []=oR (.tup [vl 2 (br ((!lessF v u)&&(knownB u&&knownB v)) 1 0) (.sl 1 []),okE]):=by
 rw [known_eq hu,known_eq hv]
 cases q0:knownR u with
 | false =>
   cases q1:knownR v with
   | false=>exact(val_vle_a (run162e hu u0 q0) (run162e hv v0 q1) rfl).trans (by simp [br])
   | true=>exact(val_vle_a (run162e hu u0 q0) (run162 hv v0 q1) rfl).trans (by simp [br])
 | true =>
   cases q1:knownR v with
   | false=>exact(val_vle_b (run162 hu u0 q0) (run162e hv v0 q1) rfl rfl).trans (by simp [br])
   | true =>
     rw [less_val hv hu v0 u0 q1 q0]
     have a:=run162 hu u0 q0
     have b:=run162 hv v0 q1
     cases c1:decide (valN u<valN v)<;>cases c2:decide (valN v<valN u)
     ·exact val_vle_e a b rfl rfl c1 c2
     ·exact val_vle_g a b rfl rfl c1 c2
     ·exact val_vle_l a b rfl rfl c1 c2
     ·simp at c1 c2
      omega
theorem both_vge{u v:LI}(hu:isP u=true)(hv:isP v=true)(u0:∀ b∈u,(0:Int)≤b)(v0:∀ b∈v,(0:Int)≤b)(hl:u.length=v.length):evW 79 [.str [62,61],.sl 4 [[iA 4,iA 0,bitsA u,.sl 4 []],[iA 4,iA 0,bitsA v,.sl 4 []]]] []=oR (.tup [vl 2 (br ((!lessF u v)&&(knownB u&&knownB v)) 1 0) (.sl 1 []),okE]):=by
 rw [known_eq hu,known_eq hv]
 cases q0:knownR u with
 | false =>
   cases q1:knownR v with
   | false=>exact(val_vge_a (run162e hu u0 q0) (run162e hv v0 q1) rfl).trans (by simp [br])
   | true=>exact(val_vge_a (run162e hu u0 q0) (run162 hv v0 q1) rfl).trans (by simp [br])
 | true =>
   cases q1:knownR v with
   | false=>exact(val_vge_b (run162 hu u0 q0) (run162e hv v0 q1) rfl rfl).trans (by simp [br])
   | true =>
     rw [less_val hu hv u0 v0 q0 q1]
     have a:=run162 hu u0 q0
     have b:=run162 hv v0 q1
     cases c1:decide (valN u<valN v)<;>cases c2:decide (valN v<valN u)
     ·exact val_vge_e a b rfl rfl c1 c2
     ·exact val_vge_g a b rfl rfl c1 c2
     ·exact val_vge_l a b rfl rfl c1 c2
     ·simp at c1 c2
      omega
open Nat renaming reduceEqDiff → xA, reduceLT → xB, reduceAdd → xC, reduceMul → xD, reduceSub → xE, reduceDiv → xF, reduceLeDiff → xN
open Int renaming reduceAdd → xH, reduceLE → xI, reduceLT → xJ, reduceToNat → xK, reduceEq → xL, reduceBEq → xM
open UInt8 renaming reduceToNat → xO
theorem run229e{k l e:Int}{xs:LI}(h:(e==0)=false):evW 229 [tyA k l,bitsA xs,iA e] []=oR (.tup [vl 0 0 (.sl 1 []),iA e]):=by
 rw [w229 rfl]
 conv=>lhs;arg 2;whnf
 simp +contextual -implicitDefEqProofs (maxSteps:=9^9) only [↓wkA,↓lv229,↓fz229,wuH,↓reduceIte,xA,xB,xC,xD,xE,xF,reduceCtorEq,xH,xI,xJ,xK,xL,xM,xN,xO,h,wbr]
theorem run165e{v:LI}{e:Int}(h:(e==0)=false):evW 165 [bitsA v,iA e] []=oR (.tup [vl 0 0 (.sl 1 []),iA e]):=by
 rw [w165 rfl]
 conv=>lhs;arg 2;whnf
 simp +contextual -implicitDefEqProofs (maxSteps:=9^9) only [↓wkA,↓lv165,↓fz165,wuH,↓reduceIte,xA,xB,xC,xD,xE,xF,reduceCtorEq,xH,xI,xJ,xK,xL,xM,xN,xO,h,wbr]
theorem run151shle{v:LI}(hp:isP v=true)(h0:∀ b∈v,(0:Int)≤b){k l:Int}(hk:decide (k<0)=true):evW 151 [.str [115,104,108],.agg [iA 4,iA 0,bitsA v,.sl 4 []],.agg [iA 3,iA k,.sl 1 [],.sl 4 []],.agg [iA 4,iA l,.str [],.sl 1 [],.sl 5 []]] []=oR (.tup [vl 0 0 (.sl 1 []),iA 19]):=by
 have h1:=run241e hp hk
 have h2:=run229e (k:=4) (l:=l) (xs:=[]) (e:=19) rfl
 simp only [bitsA,List.map_nil] at h2
 rw [w151 rfl]
 conv=>lhs;arg 2;whnf
 simp +contextual -implicitDefEqProofs (maxSteps:=9^9) only [↓wkA,↓lv151,↓fz151,↓tbr151,wuH,↓reduceIte,xA,xB,xC,xD,xE,xF,reduceCtorEq,xH,xI,xJ,xK,xL,xM,xN,xO,h1,h2,wbr]
theorem run151shl{v:LI}(hp:isP v=true)(h0:∀ b∈v,(0:Int)≤b){k l:Int}(hk:decide (k<0)=false):evW 151 [.str [115,104,108],.agg [iA 4,iA 0,bitsA v,.sl 4 []],.agg [iA 3,iA k,.sl 1 [],.sl 4 []],.agg [iA 4,iA l,.str [],.sl 1 [],.sl 5 []]] []=oR (.tup [vl 4 0 (bitsA (tabL v.length (gM v (if 64<k then 64 else k)))),okE]):=by
 have h1:=run241 hp hk
 rw [w151 rfl]
 conv=>lhs;arg 2;whnf
 simp +contextual -implicitDefEqProofs (maxSteps:=9^9) only [↓wkA,↓lv151,↓fz151,↓tbr151,wuH,↓reduceIte,xA,xB,xC,xD,xE,xF,reduceCtorEq,xH,xI,xJ,xK,xL,xM,xN,xO,h1,run229,wbr]
theorem do_shle{v:LI}(hp:isP v=true)(h0:∀ b∈v,(0:Int)≤b){k l:Int}(hk:decide (k<0)=true):evW 75 [.str [115,104,108],.sl 4 [[iA 4,iA 0,bitsA v,.sl 4 []],[iA 3,iA k,.sl 1 [],.sl 4 []]],.sl 5 [[iA 4,iA l,.str [],.sl 1 [],.sl 5 []],[iA 3,iA 0,.str [],.sl 1 [],.sl 5 []]]] []=oR (.tup [vl 0 0 (.sl 1 []),iA 19]):=by
 have h1:=run151shle hp h0 hk (l:=l)
 rw [w75 rfl]
 conv=>lhs;arg 2;whnf
 simp +contextual -implicitDefEqProofs (maxSteps:=9^9) only [↓wkA,↓lv75,↓fz75,↓tbr75,wuH,↓reduceIte,xA,xB,xC,xD,xE,xF,reduceCtorEq,xH,xI,xJ,xK,xL,xM,xN,xO,h1,wbr]
theorem do_shl{v:LI}(hp:isP v=true)(h0:∀ b∈v,(0:Int)≤b){k l:Int}(hk:decide (k<0)=false):evW 75 [.str [115,104,108],.sl 4 [[iA 4,iA 0,bitsA v,.sl 4 []],[iA 3,iA k,.sl 1 [],.sl 4 []]],.sl 5 [[iA 4,iA l,.str [],.sl 1 [],.sl 5 []],[iA 3,iA 0,.str [],.sl 1 [],.sl 5 []]]] []=oR (.tup [vl 4 0 (bitsA (tabL v.length (gM v (if 64<k then 64 else k)))),okE]):=by
 have h1:=run151shl hp h0 hk (l:=l)
 rw [w75 rfl]
 conv=>lhs;arg 2;whnf
 simp +contextual -implicitDefEqProofs (maxSteps:=9^9) only [↓wkA,↓lv75,↓fz75,↓tbr75,wuH,↓reduceIte,xA,xB,xC,xD,xE,xF,reduceCtorEq,xH,xI,xJ,xK,xL,xM,xN,xO,h1,wbr]
theorem val_shle{v:LI}(hp:isP v=true)(h0:∀ b∈v,(0:Int)≤b){k:Int}(hk:decide (k<0)=true):evW 79 [.str [115,104,108],.sl 4 [[iA 4,iA 0,bitsA v,.sl 4 []],[iA 3,iA k,.sl 1 [],.sl 4 []]]] []=oR (.tup [vl 0 0 (.sl 1 []),iA 19]):=by
 have h1:=run170e hp h0 hk
 have h2:=run165e (v:=[]) (e:=19) rfl
 simp only [bitsA,List.map_nil] at h2
 rw [w79 rfl]
 conv=>lhs;arg 2;whnf
 simp +contextual -implicitDefEqProofs (maxSteps:=9^9) only [↓wkA,↓lv79,↓fz79,↓tbr79,wuH,↓reduceIte,xA,xB,xC,xD,xE,xF,reduceCtorEq,xH,xI,xJ,xK,xL,xM,xN,xO,h1,h2,wbr]
theorem val_shl{v:LI}(hp:isP v=true)(h0:∀ b∈v,(0:Int)≤b){k:Int}(hk:decide (k<0)=false)(hk2:k≤2147483647):evW 79 [.str [115,104,108],.sl 4 [[iA 4,iA 0,bitsA v,.sl 4 []],[iA 3,iA k,.sl 1 [],.sl 4 []]]] []=oR (.tup [vl 4 0 (bitsA (tabL v.length (gM v (if 64<k then 64 else k)))),okE]):=by
 have hlen:=isP_len hp
 have h1:=run170 hp h0 hk hk2
 rw [left_eq (by omega) (by have:=of_decide_eq_false hk;omega)]
 have h165:=run165 (v:=tabL v.length (gRL v k)) (by unfold tabL;simp;omega)
 rw [w79 rfl]
 conv=>lhs;arg 2;whnf
 simp +contextual -implicitDefEqProofs (maxSteps:=9^9) only [↓wkA,↓lv79,↓fz79,↓tbr79,wuH,↓reduceIte,xA,xB,xC,xD,xE,xF,reduceCtorEq,xH,xI,xJ,xK,xL,xM,xN,xO,h1,h165,wbr]
theorem run151shre{v:LI}(hp:isP v=true)(h0:∀ b∈v,(0:Int)≤b){k l:Int}(hk:decide (k<0)=true):evW 151 [.str [115,104,114],.agg [iA 4,iA 0,bitsA v,.sl 4 []],.agg [iA 3,iA k,.sl 1 [],.sl 4 []],.agg [iA 4,iA l,.str [],.sl 1 [],.sl 5 []]] []=oR (.tup [vl 0 0 (.sl 1 []),iA 19]):=by
 have h1:=run242e hp hk
 have h2:=run229e (k:=4) (l:=l) (xs:=[]) (e:=19) rfl
 simp only [bitsA,List.map_nil] at h2
 rw [w151 rfl]
 conv=>lhs;arg 2;whnf
 simp +contextual -implicitDefEqProofs (maxSteps:=9^9) only [↓wkA,↓lv151,↓fz151,↓tbr151,wuH,↓reduceIte,xA,xB,xC,xD,xE,xF,reduceCtorEq,xH,xI,xJ,xK,xL,xM,xN,xO,h1,h2,wbr]
theorem run151shr{v:LI}(hp:isP v=true)(h0:∀ b∈v,(0:Int)≤b){k l:Int}(hk:decide (k<0)=false):evW 151 [.str [115,104,114],.agg [iA 4,iA 0,bitsA v,.sl 4 []],.agg [iA 3,iA k,.sl 1 [],.sl 4 []],.agg [iA 4,iA l,.str [],.sl 1 [],.sl 5 []]] []=oR (.tup [vl 4 0 (bitsA (tabL v.length (gM v (-(if 64<k then 64 else k))))),okE]):=by
 have h1:=run242 hp hk
 rw [w151 rfl]
 conv=>lhs;arg 2;whnf
 simp +contextual -implicitDefEqProofs (maxSteps:=9^9) only [↓wkA,↓lv151,↓fz151,↓tbr151,wuH,↓reduceIte,xA,xB,xC,xD,xE,xF,reduceCtorEq,xH,xI,xJ,xK,xL,xM,xN,xO,h1,run229,wbr]
theorem do_shre{v:LI}(hp:isP v=true)(h0:∀ b∈v,(0:Int)≤b){k l:Int}(hk:decide (k<0)=true):evW 75 [.str [115,104,114],.sl 4 [[iA 4,iA 0,bitsA v,.sl 4 []],[iA 3,iA k,.sl 1 [],.sl 4 []]],.sl 5 [[iA 4,iA l,.str [],.sl 1 [],.sl 5 []],[iA 3,iA 0,.str [],.sl 1 [],.sl 5 []]]] []=oR (.tup [vl 0 0 (.sl 1 []),iA 19]):=by
 have h1:=run151shre hp h0 hk (l:=l)
 rw [w75 rfl]
 conv=>lhs;arg 2;whnf
 simp +contextual -implicitDefEqProofs (maxSteps:=9^9) only [↓wkA,↓lv75,↓fz75,↓tbr75,wuH,↓reduceIte,xA,xB,xC,xD,xE,xF,reduceCtorEq,xH,xI,xJ,xK,xL,xM,xN,xO,h1,wbr]
theorem do_shr{v:LI}(hp:isP v=true)(h0:∀ b∈v,(0:Int)≤b){k l:Int}(hk:decide (k<0)=false):evW 75 [.str [115,104,114],.sl 4 [[iA 4,iA 0,bitsA v,.sl 4 []],[iA 3,iA k,.sl 1 [],.sl 4 []]],.sl 5 [[iA 4,iA l,.str [],.sl 1 [],.sl 5 []],[iA 3,iA 0,.str [],.sl 1 [],.sl 5 []]]] []=oR (.tup [vl 4 0 (bitsA (tabL v.length (gM v (-(if 64<k then 64 else k))))),okE]):=by
 have h1:=run151shr hp h0 hk (l:=l)
 rw [w75 rfl]
 conv=>lhs;arg 2;whnf
 simp +contextual -implicitDefEqProofs (maxSteps:=9^9) only [↓wkA,↓lv75,↓fz75,↓tbr75,wuH,↓reduceIte,xA,xB,xC,xD,xE,xF,reduceCtorEq,xH,xI,xJ,xK,xL,xM,xN,xO,h1,wbr]
theorem val_shre{v:LI}(hp:isP v=true)(h0:∀ b∈v,(0:Int)≤b){k:Int}(hk:decide (k<0)=true):evW 79 [.str [115,104,114],.sl 4 [[iA 4,iA 0,bitsA v,.sl 4 []],[iA 3,iA k,.sl 1 [],.sl 4 []]]] []=oR (.tup [vl 0 0 (.sl 1 []),iA 19]):=by
 have h1:=run171e hp h0 hk
 have h2:=run165e (v:=[]) (e:=19) rfl
 simp only [bitsA,List.map_nil] at h2
 rw [w79 rfl]
 conv=>lhs;arg 2;whnf
 simp +contextual -implicitDefEqProofs (maxSteps:=9^9) only [↓wkA,↓lv79,↓fz79,↓tbr79,wuH,↓reduceIte,xA,xB,xC,xD,xE,xF,reduceCtorEq,xH,xI,xJ,xK,xL,xM,xN,xO,h1,h2,wbr]
theorem val_shr{v:LI}(hp:isP v=true)(h0:∀ b∈v,(0:Int)≤b){k:Int}(hk:decide (k<0)=false)(hk2:k≤2147483647):evW 79 [.str [115,104,114],.sl 4 [[iA 4,iA 0,bitsA v,.sl 4 []],[iA 3,iA k,.sl 1 [],.sl 4 []]]] []=oR (.tup [vl 4 0 (bitsA (tabL v.length (gM v (-(if 64<k then 64 else k))))),okE]):=by
 have hlen:=isP_len hp
 have h1:=run171 hp h0 hk hk2
 rw [right_eq (by omega) (by have:=of_decide_eq_false hk;omega)]
 have h165:=run165 (v:=tabL v.length (gRR v k)) (by unfold tabL;simp;omega)
 rw [w79 rfl]
 conv=>lhs;arg 2;whnf
 simp +contextual -implicitDefEqProofs (maxSteps:=9^9) only [↓wkA,↓lv79,↓fz79,↓tbr79,wuH,↓reduceIte,xA,xB,xC,xD,xE,xF,reduceCtorEq,xH,xI,xJ,xK,xL,xM,xN,xO,h1,h165,wbr]
end Go.Proofs.YtdhcgankmhpgeaaGreat.M
