import Derived.Test.YtdhcgankmhpgeaaGreatB23
set_option linter.all false
namespace Go.Proofs.YtdhcgankmhpgeaaGreat.M
open Go
open Nat renaming reduceEqDiff → xA, reduceLT → xB, reduceAdd → xC, reduceMul → xD, reduceSub → xE, reduceDiv → xF, reduceLeDiff → xN
open Int renaming reduceAdd → xH, reduceLE → xI, reduceLT → xJ, reduceToNat → xK, reduceEq → xL, reduceBEq → xM
open UInt8 renaming reduceToNat → xO
set_option maxRecDepth 100000
set_option maxHeartbeats 4000000
attribute [local congr] br_congr ob2_congr cnd_congr gdK_congr ob_congr clK_congr finK_congr reg_congr pkK_congr kTK_congr dlT_congr gck_congr iff2_congr sel_congr dPn_congr apJ_congr nmK_congr kTo_congr fzO_congr rcK_congr lvB_congr crK_congr cdB_congr
theorem do_ilt{a b:Int}:evW 75 [.str [60],.sl 4 [[iA 3,iA a,.sl 1 [],.sl 4 []],[iA 3,iA b,.sl 1 [],.sl 4 []]],.sl 5 [[iA 3,iA 0,.str [],.sl 1 [],.sl 5 []],[iA 3,iA 0,.str [],.sl 1 [],.sl 5 []]]] []=oR (.tup [vl 2 (br (decide (a<b)) 1 0) (.sl 1 []),okE]):=by
 rw [w75 rfl]
 conv=>lhs;arg 2;whnf
 simp +contextual -implicitDefEqProofs (maxSteps:=9^9) only [↓wkA,↓lv75,↓fz75,↓tbr75,wuH,↓reduceIte,xA,xB,xC,xD,xE,xF,reduceCtorEq,xH,xI,xJ,xK,xL,xM,xN,xO,run148lt,wbr]
theorem val_ilt{a b:Int}(ha:isI a=true)(hb:isI b=true):evW 79 [.str [60],.sl 4 [[iA 3,iA a,.sl 1 [],.sl 4 []],[iA 3,iA b,.sl 1 [],.sl 4 []]]] []=oR (.tup [vl 2 (br (decide (a<b)) 1 0) (.sl 1 []),okE]):=by
 unfold isI at ha hb
 simp only [Bool.and_eq_true,decide_eq_true_eq] at ha hb
 have hw:IntKind.i64.wrap (a-b)=a-b:=wrap_i64 (by omega) (by omega)
 have h161:=run161lt (c:=a-b)
 rw [show (decide (a-b<0))=decide (a<b) by rw [Bool.eq_iff_iff,decide_eq_true_eq,decide_eq_true_eq];omega] at h161
 rw [w79 rfl]
 conv=>lhs;arg 2;whnf
 simp +contextual -implicitDefEqProofs (maxSteps:=9^9) only [↓wkA,↓lv79,↓fz79,↓tbr79,wuH,↓reduceIte,xA,xB,xC,xD,xE,xF,reduceCtorEq,xH,xI,xJ,xK,xL,xM,xN,xO,hw,h161,run158,wbr]
theorem do_ile{a b:Int}:evW 75 [.str [60,61],.sl 4 [[iA 3,iA a,.sl 1 [],.sl 4 []],[iA 3,iA b,.sl 1 [],.sl 4 []]],.sl 5 [[iA 3,iA 0,.str [],.sl 1 [],.sl 5 []],[iA 3,iA 0,.str [],.sl 1 [],.sl 5 []]]] []=oR (.tup [vl 2 (br (decide (a≤b)) 1 0) (.sl 1 []),okE]):=by
 rw [w75 rfl]
 conv=>lhs;arg 2;whnf
 simp +contextual -implicitDefEqProofs (maxSteps:=9^9) only [↓wkA,↓lv75,↓fz75,↓tbr75,wuH,↓reduceIte,xA,xB,xC,xD,xE,xF,reduceCtorEq,xH,xI,xJ,xK,xL,xM,xN,xO,run148le,wbr]
theorem val_ile{a b:Int}(ha:isI a=true)(hb:isI b=true):evW 79 [.str [60,61],.sl 4 [[iA 3,iA a,.sl 1 [],.sl 4 []],[iA 3,iA b,.sl 1 [],.sl 4 []]]] []=oR (.tup [vl 2 (br (decide (a≤b)) 1 0) (.sl 1 []),okE]):=by
 unfold isI at ha hb
 simp only [Bool.and_eq_true,decide_eq_true_eq] at ha hb
 have hw:IntKind.i64.wrap (a-b)=a-b:=wrap_i64 (by omega) (by omega)
 have h161:=run161le (c:=a-b)
 rw [show (decide (a-b≤0))=decide (a≤b) by rw [Bool.eq_iff_iff,decide_eq_true_eq,decide_eq_true_eq];omega] at h161
 rw [w79 rfl]
 conv=>lhs;arg 2;whnf
 simp +contextual -implicitDefEqProofs (maxSteps:=9^9) only [↓wkA,↓lv79,↓fz79,↓tbr79,wuH,↓reduceIte,xA,xB,xC,xD,xE,xF,reduceCtorEq,xH,xI,xJ,xK,xL,xM,xN,xO,hw,h161,run158,wbr]
theorem do_igt{a b:Int}:evW 75 [.str [62],.sl 4 [[iA 3,iA a,.sl 1 [],.sl 4 []],[iA 3,iA b,.sl 1 [],.sl 4 []]],.sl 5 [[iA 3,iA 0,.str [],.sl 1 [],.sl 5 []],[iA 3,iA 0,.str [],.sl 1 [],.sl 5 []]]] []=oR (.tup [vl 2 (br (decide (b<a)) 1 0) (.sl 1 []),okE]):=by
 rw [w75 rfl]
 conv=>lhs;arg 2;whnf
 simp +contextual -implicitDefEqProofs (maxSteps:=9^9) only [↓wkA,↓lv75,↓fz75,↓tbr75,wuH,↓reduceIte,xA,xB,xC,xD,xE,xF,reduceCtorEq,xH,xI,xJ,xK,xL,xM,xN,xO,run148gt,wbr]
theorem val_igt{a b:Int}(ha:isI a=true)(hb:isI b=true):evW 79 [.str [62],.sl 4 [[iA 3,iA a,.sl 1 [],.sl 4 []],[iA 3,iA b,.sl 1 [],.sl 4 []]]] []=oR (.tup [vl 2 (br (decide (b<a)) 1 0) (.sl 1 []),okE]):=by
 unfold isI at ha hb
 simp only [Bool.and_eq_true,decide_eq_true_eq] at ha hb
 have hw:IntKind.i64.wrap (a-b)=a-b:=wrap_i64 (by omega) (by omega)
 have h161:=run161gt (c:=a-b)
 rw [show (decide (0<a-b))=decide (b<a) by rw [Bool.eq_iff_iff,decide_eq_true_eq,decide_eq_true_eq];omega] at h161
 rw [w79 rfl]
 conv=>lhs;arg 2;whnf
 simp +contextual -implicitDefEqProofs (maxSteps:=9^9) only [↓wkA,↓lv79,↓fz79,↓tbr79,wuH,↓reduceIte,xA,xB,xC,xD,xE,xF,reduceCtorEq,xH,xI,xJ,xK,xL,xM,xN,xO,hw,h161,run158,wbr]
theorem do_ige{a b:Int}:evW 75 [.str [62,61],.sl 4 [[iA 3,iA a,.sl 1 [],.sl 4 []],[iA 3,iA b,.sl 1 [],.sl 4 []]],.sl 5 [[iA 3,iA 0,.str [],.sl 1 [],.sl 5 []],[iA 3,iA 0,.str [],.sl 1 [],.sl 5 []]]] []=oR (.tup [vl 2 (br (decide (b≤a)) 1 0) (.sl 1 []),okE]):=by
 rw [w75 rfl]
 conv=>lhs;arg 2;whnf
 simp +contextual -implicitDefEqProofs (maxSteps:=9^9) only [↓wkA,↓lv75,↓fz75,↓tbr75,wuH,↓reduceIte,xA,xB,xC,xD,xE,xF,reduceCtorEq,xH,xI,xJ,xK,xL,xM,xN,xO,run148ge,wbr]
theorem val_ige{a b:Int}(ha:isI a=true)(hb:isI b=true):evW 79 [.str [62,61],.sl 4 [[iA 3,iA a,.sl 1 [],.sl 4 []],[iA 3,iA b,.sl 1 [],.sl 4 []]]] []=oR (.tup [vl 2 (br (decide (b≤a)) 1 0) (.sl 1 []),okE]):=by
 unfold isI at ha hb
 simp only [Bool.and_eq_true,decide_eq_true_eq] at ha hb
 have hw:IntKind.i64.wrap (a-b)=a-b:=wrap_i64 (by omega) (by omega)
 have h161:=run161ge (c:=a-b)
 rw [show (decide (0≤a-b))=decide (b≤a) by rw [Bool.eq_iff_iff,decide_eq_true_eq,decide_eq_true_eq];omega] at h161
 rw [w79 rfl]
 conv=>lhs;arg 2;whnf
 simp +contextual -implicitDefEqProofs (maxSteps:=9^9) only [↓wkA,↓lv79,↓fz79,↓tbr79,wuH,↓reduceIte,xA,xB,xC,xD,xE,xF,reduceCtorEq,xH,xI,xJ,xK,xL,xM,xN,xO,hw,h161,run158,wbr]
theorem do_iaddt{a b:Int}(h:(intE addI false a b==0)=true):evW 75 [.str [43],.sl 4 [[iA 3,iA a,.sl 1 [],.sl 4 []],[iA 3,iA b,.sl 1 [],.sl 4 []]],.sl 5 [[iA 3,iA 0,.str [],.sl 1 [],.sl 5 []],[iA 3,iA 0,.str [],.sl 1 [],.sl 5 []]]] []=oR (.tup [vl 3 (intN addI false a b) (.sl 1 []),okE]):=by
 have h3:=run148add (a:=a) (b:=b)
 rw [h,br_true] at h3
 rw [w75 rfl]
 conv=>lhs;arg 2;whnf
 simp +contextual -implicitDefEqProofs (maxSteps:=9^9) only [↓wkA,↓lv75,↓fz75,↓tbr75,wuH,↓reduceIte,xA,xB,xC,xD,xE,xF,reduceCtorEq,xH,xI,xJ,xK,xL,xM,xN,xO,h3,wbr]
theorem run163t{n e:Int}(h:(e==0)=true):evW 163 [iA n,iA e] []=oR (.tup [vl 3 n (.sl 1 []),okE]):=by
 rw [w163 rfl]
 conv=>lhs;arg 2;whnf
 simp +contextual -implicitDefEqProofs (maxSteps:=9^9) only [↓wkA,↓lv163,↓fz163,wuH,↓reduceIte,xA,xB,xC,xD,xE,xF,reduceCtorEq,xH,xI,xJ,xK,xL,xM,xN,xO,h,wbr]
theorem val_iaddt{a b:Int}(ha:isI a=true)(hb:isI b=true)(h:(intE addI false a b==0)=true):evW 79 [.str [43],.sl 4 [[iA 3,iA a,.sl 1 [],.sl 4 []],[iA 3,iA b,.sl 1 [],.sl 4 []]]] []=oR (.tup [vl 3 (intN addI false a b) (.sl 1 []),okE]):=by
 have h4:=run164add ha hb
 have h5:=run163t (n:=intN addI false a b) h
 rw [w79 rfl]
 conv=>lhs;arg 2;whnf
 simp +contextual -implicitDefEqProofs (maxSteps:=9^9) only [↓wkA,↓lv79,↓fz79,↓tbr79,wuH,↓reduceIte,xA,xB,xC,xD,xE,xF,reduceCtorEq,xH,xI,xJ,xK,xL,xM,xN,xO,h4,h5,wbr]
theorem do_iaddf{a b:Int}(h:(intE addI false a b==0)=false):evW 75 [.str [43],.sl 4 [[iA 3,iA a,.sl 1 [],.sl 4 []],[iA 3,iA b,.sl 1 [],.sl 4 []]],.sl 5 [[iA 3,iA 0,.str [],.sl 1 [],.sl 5 []],[iA 3,iA 0,.str [],.sl 1 [],.sl 5 []]]] []=oR (.tup [vl 0 0 (.sl 1 []),iA (intE addI false a b)]):=by
 have h3:=run148add (a:=a) (b:=b)
 rw [h,br_false] at h3
 rw [w75 rfl]
 conv=>lhs;arg 2;whnf
 simp +contextual -implicitDefEqProofs (maxSteps:=9^9) only [↓wkA,↓lv75,↓fz75,↓tbr75,wuH,↓reduceIte,xA,xB,xC,xD,xE,xF,reduceCtorEq,xH,xI,xJ,xK,xL,xM,xN,xO,h3,wbr]
theorem run163f{n e:Int}(h:(e==0)=false):evW 163 [iA n,iA e] []=oR (.tup [vl 0 0 (.sl 1 []),iA e]):=by
 rw [w163 rfl]
 conv=>lhs;arg 2;whnf
 simp +contextual -implicitDefEqProofs (maxSteps:=9^9) only [↓wkA,↓lv163,↓fz163,wuH,↓reduceIte,xA,xB,xC,xD,xE,xF,reduceCtorEq,xH,xI,xJ,xK,xL,xM,xN,xO,h,wbr]
theorem val_iaddf{a b:Int}(ha:isI a=true)(hb:isI b=true)(h:(intE addI false a b==0)=false):evW 79 [.str [43],.sl 4 [[iA 3,iA a,.sl 1 [],.sl 4 []],[iA 3,iA b,.sl 1 [],.sl 4 []]]] []=oR (.tup [vl 0 0 (.sl 1 []),iA (intE addI false a b)]):=by
 have h4:=run164add ha hb
 have h5:=run163f (n:=intN addI false a b) h
 rw [w79 rfl]
 conv=>lhs;arg 2;whnf
 simp +contextual -implicitDefEqProofs (maxSteps:=9^9) only [↓wkA,↓lv79,↓fz79,↓tbr79,wuH,↓reduceIte,xA,xB,xC,xD,xE,xF,reduceCtorEq,xH,xI,xJ,xK,xL,xM,xN,xO,h4,h5,wbr]
theorem do_isubt{a b:Int}(h:(intE subI false a b==0)=true):evW 75 [.str [45],.sl 4 [[iA 3,iA a,.sl 1 [],.sl 4 []],[iA 3,iA b,.sl 1 [],.sl 4 []]],.sl 5 [[iA 3,iA 0,.str [],.sl 1 [],.sl 5 []],[iA 3,iA 0,.str [],.sl 1 [],.sl 5 []]]] []=oR (.tup [vl 3 (intN subI false a b) (.sl 1 []),okE]):=by
 have h3:=run148sub (a:=a) (b:=b)
 rw [h,br_true] at h3
 rw [w75 rfl]
 conv=>lhs;arg 2;whnf
 simp +contextual -implicitDefEqProofs (maxSteps:=9^9) only [↓wkA,↓lv75,↓fz75,↓tbr75,wuH,↓reduceIte,xA,xB,xC,xD,xE,xF,reduceCtorEq,xH,xI,xJ,xK,xL,xM,xN,xO,h3,wbr]
theorem val_isubt{a b:Int}(ha:isI a=true)(hb:isI b=true)(h:(intE subI false a b==0)=true):evW 79 [.str [45],.sl 4 [[iA 3,iA a,.sl 1 [],.sl 4 []],[iA 3,iA b,.sl 1 [],.sl 4 []]]] []=oR (.tup [vl 3 (intN subI false a b) (.sl 1 []),okE]):=by
 have h4:=run164sub ha hb
 have h5:=run163t (n:=intN subI false a b) h
 rw [w79 rfl]
 conv=>lhs;arg 2;whnf
 simp +contextual -implicitDefEqProofs (maxSteps:=9^9) only [↓wkA,↓lv79,↓fz79,↓tbr79,wuH,↓reduceIte,xA,xB,xC,xD,xE,xF,reduceCtorEq,xH,xI,xJ,xK,xL,xM,xN,xO,h4,h5,wbr]
theorem do_isubf{a b:Int}(h:(intE subI false a b==0)=false):evW 75 [.str [45],.sl 4 [[iA 3,iA a,.sl 1 [],.sl 4 []],[iA 3,iA b,.sl 1 [],.sl 4 []]],.sl 5 [[iA 3,iA 0,.str [],.sl 1 [],.sl 5 []],[iA 3,iA 0,.str [],.sl 1 [],.sl 5 []]]] []=oR (.tup [vl 0 0 (.sl 1 []),iA (intE subI false a b)]):=by
 have h3:=run148sub (a:=a) (b:=b)
 rw [h,br_false] at h3
 rw [w75 rfl]
 conv=>lhs;arg 2;whnf
 simp +contextual -implicitDefEqProofs (maxSteps:=9^9) only [↓wkA,↓lv75,↓fz75,↓tbr75,wuH,↓reduceIte,xA,xB,xC,xD,xE,xF,reduceCtorEq,xH,xI,xJ,xK,xL,xM,xN,xO,h3,wbr]
theorem val_isubf{a b:Int}(ha:isI a=true)(hb:isI b=true)(h:(intE subI false a b==0)=false):evW 79 [.str [45],.sl 4 [[iA 3,iA a,.sl 1 [],.sl 4 []],[iA 3,iA b,.sl 1 [],.sl 4 []]]] []=oR (.tup [vl 0 0 (.sl 1 []),iA (intE subI false a b)]):=by
 have h4:=run164sub ha hb
 have h5:=run163f (n:=intN subI false a b) h
 rw [w79 rfl]
 conv=>lhs;arg 2;whnf
 simp +contextual -implicitDefEqProofs (maxSteps:=9^9) only [↓wkA,↓lv79,↓fz79,↓tbr79,wuH,↓reduceIte,xA,xB,xC,xD,xE,xF,reduceCtorEq,xH,xI,xJ,xK,xL,xM,xN,xO,h4,h5,wbr]
theorem do_imult{a b:Int}(h:(intE mulI false a b==0)=true):evW 75 [.str [42],.sl 4 [[iA 3,iA a,.sl 1 [],.sl 4 []],[iA 3,iA b,.sl 1 [],.sl 4 []]],.sl 5 [[iA 3,iA 0,.str [],.sl 1 [],.sl 5 []],[iA 3,iA 0,.str [],.sl 1 [],.sl 5 []]]] []=oR (.tup [vl 3 (intN mulI false a b) (.sl 1 []),okE]):=by
 have h3:=run148mul (a:=a) (b:=b)
 rw [h,br_true] at h3
 rw [w75 rfl]
 conv=>lhs;arg 2;whnf
 simp +contextual -implicitDefEqProofs (maxSteps:=9^9) only [↓wkA,↓lv75,↓fz75,↓tbr75,wuH,↓reduceIte,xA,xB,xC,xD,xE,xF,reduceCtorEq,xH,xI,xJ,xK,xL,xM,xN,xO,h3,wbr]
theorem val_imult{a b:Int}(ha:isI a=true)(hb:isI b=true)(h:(intE mulI false a b==0)=true):evW 79 [.str [42],.sl 4 [[iA 3,iA a,.sl 1 [],.sl 4 []],[iA 3,iA b,.sl 1 [],.sl 4 []]]] []=oR (.tup [vl 3 (intN mulI false a b) (.sl 1 []),okE]):=by
 have h4:=run164mul ha hb
 have h5:=run163t (n:=intN mulI false a b) h
 rw [w79 rfl]
 conv=>lhs;arg 2;whnf
 simp +contextual -implicitDefEqProofs (maxSteps:=9^9) only [↓wkA,↓lv79,↓fz79,↓tbr79,wuH,↓reduceIte,xA,xB,xC,xD,xE,xF,reduceCtorEq,xH,xI,xJ,xK,xL,xM,xN,xO,h4,h5,wbr]
theorem do_imulf{a b:Int}(h:(intE mulI false a b==0)=false):evW 75 [.str [42],.sl 4 [[iA 3,iA a,.sl 1 [],.sl 4 []],[iA 3,iA b,.sl 1 [],.sl 4 []]],.sl 5 [[iA 3,iA 0,.str [],.sl 1 [],.sl 5 []],[iA 3,iA 0,.str [],.sl 1 [],.sl 5 []]]] []=oR (.tup [vl 0 0 (.sl 1 []),iA (intE mulI false a b)]):=by
 have h3:=run148mul (a:=a) (b:=b)
 rw [h,br_false] at h3
 rw [w75 rfl]
 conv=>lhs;arg 2;whnf
 simp +contextual -implicitDefEqProofs (maxSteps:=9^9) only [↓wkA,↓lv75,↓fz75,↓tbr75,wuH,↓reduceIte,xA,xB,xC,xD,xE,xF,reduceCtorEq,xH,xI,xJ,xK,xL,xM,xN,xO,h3,wbr]
theorem val_imulf{a b:Int}(ha:isI a=true)(hb:isI b=true)(h:(intE mulI false a b==0)=false):evW 79 [.str [42],.sl 4 [[iA 3,iA a,.sl 1 [],.sl 4 []],[iA 3,iA b,.sl 1 [],.sl 4 []]]] []=oR (.tup [vl 0 0 (.sl 1 []),iA (intE mulI false a b)]):=by
 have h4:=run164mul ha hb
 have h5:=run163f (n:=intN mulI false a b) h
 rw [w79 rfl]
 conv=>lhs;arg 2;whnf
 simp +contextual -implicitDefEqProofs (maxSteps:=9^9) only [↓wkA,↓lv79,↓fz79,↓tbr79,wuH,↓reduceIte,xA,xB,xC,xD,xE,xF,reduceCtorEq,xH,xI,xJ,xK,xL,xM,xN,xO,h4,h5,wbr]
theorem do_eqt{k1 n1 k2 n2:Int}{b1 b2:LI}{w1 w2:LA}{q1 l1 q2 l2:Int}{s1 s2:LU}{m1 m2 e1 e2:LA}(h:evW 40 [.agg [iA q1,iA l1,.str s1,.sl 1 m1,.sl 5 e1],.agg [iA k1,iA n1,bitsA b1,.sl 4 w1],.agg [iA k2,iA n2,bitsA b2,.sl 4 w2]] []=oR (.tup [.bool true,okE])):evW 75 [.str [61],.sl 4 [[iA k1,iA n1,bitsA b1,.sl 4 w1],[iA k2,iA n2,bitsA b2,.sl 4 w2]],.sl 5 [[iA q1,iA l1,.str s1,.sl 1 m1,.sl 5 e1],[iA q2,iA l2,.str s2,.sl 1 m2,.sl 5 e2]]] []=oR (.tup [vl 2 1 (.sl 1 []),okE]):=by
 rw [w75 rfl]
 conv=>lhs;arg 2;whnf
 simp +contextual -implicitDefEqProofs (maxSteps:=9^9) only [↓wkA,↓lv75,↓fz75,↓tbr75,wuH,↓reduceIte,xA,xB,xC,xD,xE,xF,reduceCtorEq,xH,xI,xJ,xK,xL,xM,xN,xO,h,run150,wbr]
theorem val_eqt{k1 n1 k2 n2:Int}{b1 b2:LI}{w1 w2:LA}(h:evW 17 [.agg [iA k1,iA n1,bitsA b1,.sl 4 w1],.agg [iA k2,iA n2,bitsA b2,.sl 4 w2]] []=oR (.bool true)):evW 79 [.str [61],.sl 4 [[iA k1,iA n1,bitsA b1,.sl 4 w1],[iA k2,iA n2,bitsA b2,.sl 4 w2]]] []=oR (.tup [vl 2 1 (.sl 1 []),okE]):=by
 rw [w79 rfl]
 conv=>lhs;arg 2;whnf
 simp +contextual -implicitDefEqProofs (maxSteps:=9^9) only [↓wkA,↓lv79,↓fz79,↓tbr79,wuH,↓reduceIte,xA,xB,xC,xD,xE,xF,reduceCtorEq,xH,xI,xJ,xK,xL,xM,xN,xO,h,run158,wbr]
 all_goals first|rfl|skip
theorem do_eqf{k1 n1 k2 n2:Int}{b1 b2:LI}{w1 w2:LA}{q1 l1 q2 l2:Int}{s1 s2:LU}{m1 m2 e1 e2:LA}(h:evW 40 [.agg [iA q1,iA l1,.str s1,.sl 1 m1,.sl 5 e1],.agg [iA k1,iA n1,bitsA b1,.sl 4 w1],.agg [iA k2,iA n2,bitsA b2,.sl 4 w2]] []=oR (.tup [.bool false,okE])):evW 75 [.str [61],.sl 4 [[iA k1,iA n1,bitsA b1,.sl 4 w1],[iA k2,iA n2,bitsA b2,.sl 4 w2]],.sl 5 [[iA q1,iA l1,.str s1,.sl 1 m1,.sl 5 e1],[iA q2,iA l2,.str s2,.sl 1 m2,.sl 5 e2]]] []=oR (.tup [vl 2 0 (.sl 1 []),okE]):=by
 rw [w75 rfl]
 conv=>lhs;arg 2;whnf
 simp +contextual -implicitDefEqProofs (maxSteps:=9^9) only [↓wkA,↓lv75,↓fz75,↓tbr75,wuH,↓reduceIte,xA,xB,xC,xD,xE,xF,reduceCtorEq,xH,xI,xJ,xK,xL,xM,xN,xO,h,run150,wbr]
 all_goals first|rfl|skip
theorem val_eqf{k1 n1 k2 n2:Int}{b1 b2:LI}{w1 w2:LA}(h:evW 17 [.agg [iA k1,iA n1,bitsA b1,.sl 4 w1],.agg [iA k2,iA n2,bitsA b2,.sl 4 w2]] []=oR (.bool false)):evW 79 [.str [61],.sl 4 [[iA k1,iA n1,bitsA b1,.sl 4 w1],[iA k2,iA n2,bitsA b2,.sl 4 w2]]] []=oR (.tup [vl 2 0 (.sl 1 []),okE]):=by
 rw [w79 rfl]
 conv=>lhs;arg 2;whnf
 simp +contextual -implicitDefEqProofs (maxSteps:=9^9) only [↓wkA,↓lv79,↓fz79,↓tbr79,wuH,↓reduceIte,xA,xB,xC,xD,xE,xF,reduceCtorEq,xH,xI,xJ,xK,xL,xM,xN,xO,h,run158,wbr]
 all_goals first|rfl|skip
theorem do_net{k1 n1 k2 n2:Int}{b1 b2:LI}{w1 w2:LA}{q1 l1 q2 l2:Int}{s1 s2:LU}{m1 m2 e1 e2:LA}(h:evW 40 [.agg [iA q1,iA l1,.str s1,.sl 1 m1,.sl 5 e1],.agg [iA k1,iA n1,bitsA b1,.sl 4 w1],.agg [iA k2,iA n2,bitsA b2,.sl 4 w2]] []=oR (.tup [.bool true,okE])):evW 75 [.str [47,61],.sl 4 [[iA k1,iA n1,bitsA b1,.sl 4 w1],[iA k2,iA n2,bitsA b2,.sl 4 w2]],.sl 5 [[iA q1,iA l1,.str s1,.sl 1 m1,.sl 5 e1],[iA q2,iA l2,.str s2,.sl 1 m2,.sl 5 e2]]] []=oR (.tup [vl 2 0 (.sl 1 []),okE]):=by
 rw [w75 rfl]
 conv=>lhs;arg 2;whnf
 simp +contextual -implicitDefEqProofs (maxSteps:=9^9) only [↓wkA,↓lv75,↓fz75,↓tbr75,wuH,↓reduceIte,xA,xB,xC,xD,xE,xF,reduceCtorEq,xH,xI,xJ,xK,xL,xM,xN,xO,h,run150,wbr]
 all_goals first|rfl|skip
theorem val_net{k1 n1 k2 n2:Int}{b1 b2:LI}{w1 w2:LA}(h:evW 17 [.agg [iA k1,iA n1,bitsA b1,.sl 4 w1],.agg [iA k2,iA n2,bitsA b2,.sl 4 w2]] []=oR (.bool true)):evW 79 [.str [47,61],.sl 4 [[iA k1,iA n1,bitsA b1,.sl 4 w1],[iA k2,iA n2,bitsA b2,.sl 4 w2]]] []=oR (.tup [vl 2 0 (.sl 1 []),okE]):=by
 rw [w79 rfl]
 conv=>lhs;arg 2;whnf
 simp +contextual -implicitDefEqProofs (maxSteps:=9^9) only [↓wkA,↓lv79,↓fz79,↓tbr79,wuH,↓reduceIte,xA,xB,xC,xD,xE,xF,reduceCtorEq,xH,xI,xJ,xK,xL,xM,xN,xO,h,run158,wbr]
 all_goals first|rfl|skip
theorem do_nef{k1 n1 k2 n2:Int}{b1 b2:LI}{w1 w2:LA}{q1 l1 q2 l2:Int}{s1 s2:LU}{m1 m2 e1 e2:LA}(h:evW 40 [.agg [iA q1,iA l1,.str s1,.sl 1 m1,.sl 5 e1],.agg [iA k1,iA n1,bitsA b1,.sl 4 w1],.agg [iA k2,iA n2,bitsA b2,.sl 4 w2]] []=oR (.tup [.bool false,okE])):evW 75 [.str [47,61],.sl 4 [[iA k1,iA n1,bitsA b1,.sl 4 w1],[iA k2,iA n2,bitsA b2,.sl 4 w2]],.sl 5 [[iA q1,iA l1,.str s1,.sl 1 m1,.sl 5 e1],[iA q2,iA l2,.str s2,.sl 1 m2,.sl 5 e2]]] []=oR (.tup [vl 2 1 (.sl 1 []),okE]):=by
 rw [w75 rfl]
 conv=>lhs;arg 2;whnf
 simp +contextual -implicitDefEqProofs (maxSteps:=9^9) only [↓wkA,↓lv75,↓fz75,↓tbr75,wuH,↓reduceIte,xA,xB,xC,xD,xE,xF,reduceCtorEq,xH,xI,xJ,xK,xL,xM,xN,xO,h,run150,wbr]
 all_goals first|rfl|skip
theorem val_nef{k1 n1 k2 n2:Int}{b1 b2:LI}{w1 w2:LA}(h:evW 17 [.agg [iA k1,iA n1,bitsA b1,.sl 4 w1],.agg [iA k2,iA n2,bitsA b2,.sl 4 w2]] []=oR (.bool false)):evW 79 [.str [47,61],.sl 4 [[iA k1,iA n1,bitsA b1,.sl 4 w1],[iA k2,iA n2,bitsA b2,.sl 4 w2]]] []=oR (.tup [vl 2 1 (.sl 1 []),okE]):=by
 rw [w79 rfl]
 conv=>lhs;arg 2;whnf
 simp +contextual -implicitDefEqProofs (maxSteps:=9^9) only [↓wkA,↓lv79,↓fz79,↓tbr79,wuH,↓reduceIte,xA,xB,xC,xD,xE,xF,reduceCtorEq,xH,xI,xJ,xK,xL,xM,xN,xO,h,run158,wbr]
 all_goals first|rfl|skip
theorem run151vlt{u v:LI}(hu:isP u=true)(hv:isP v=true)(hl:u.length=v.length){l:Int}:evW 151 [.str [60],vl 4 0 (bitsA u),vl 4 0 (bitsA v),tyA 4 l] []=oR (.tup [vl 2 (br ((lessF u v)&&(knownB u&&knownB v)) 1 0) (.sl 1 []),okE]):=by
 have h1:=run238 hu hv hl
 have h2:=run237 (c:=lessF u v) hu hv
 rw [w151 rfl]
 conv=>lhs;arg 2;whnf
 simp +contextual -implicitDefEqProofs (maxSteps:=9^9) only [↓wkA,↓lv151,↓fz151,↓tbr151,wuH,↓reduceIte,xA,xB,xC,xD,xE,xF,reduceCtorEq,xH,xI,xJ,xK,xL,xM,xN,xO,h1,h2,okE,wbr]
theorem do_vlt{u v:LI}(hu:isP u=true)(hv:isP v=true)(hl:u.length=v.length){l l2:Int}:evW 75 [.str [60],.sl 4 [[iA 4,iA 0,bitsA u,.sl 4 []],[iA 4,iA 0,bitsA v,.sl 4 []]],.sl 5 [[iA 4,iA l,.str [],.sl 1 [],.sl 5 []],[iA 4,iA l2,.str [],.sl 1 [],.sl 5 []]]] []=oR (.tup [vl 2 (br ((lessF u v)&&(knownB u&&knownB v)) 1 0) (.sl 1 []),okE]):=by
 have h1:=run151vlt hu hv hl (l:=l)
 rw [w75 rfl]
 conv=>lhs;arg 2;whnf
 simp +contextual -implicitDefEqProofs (maxSteps:=9^9) only [↓wkA,↓lv75,↓fz75,↓tbr75,wuH,↓reduceIte,xA,xB,xC,xD,xE,xF,reduceCtorEq,xH,xI,xJ,xK,xL,xM,xN,xO,h1,wbr]
theorem run151vgt{u v:LI}(hu:isP u=true)(hv:isP v=true)(hl:u.length=v.length){l:Int}:evW 151 [.str [62],vl 4 0 (bitsA u),vl 4 0 (bitsA v),tyA 4 l] []=oR (.tup [vl 2 (br ((lessF v u)&&(knownB u&&knownB v)) 1 0) (.sl 1 []),okE]):=by
 have h1:=run238 hv hu hl.symm
 have h2:=run237 (c:=lessF v u) hu hv
 rw [w151 rfl]
 conv=>lhs;arg 2;whnf
 simp +contextual -implicitDefEqProofs (maxSteps:=9^9) only [↓wkA,↓lv151,↓fz151,↓tbr151,wuH,↓reduceIte,xA,xB,xC,xD,xE,xF,reduceCtorEq,xH,xI,xJ,xK,xL,xM,xN,xO,h1,h2,okE,wbr]
theorem do_vgt{u v:LI}(hu:isP u=true)(hv:isP v=true)(hl:u.length=v.length){l l2:Int}:evW 75 [.str [62],.sl 4 [[iA 4,iA 0,bitsA u,.sl 4 []],[iA 4,iA 0,bitsA v,.sl 4 []]],.sl 5 [[iA 4,iA l,.str [],.sl 1 [],.sl 5 []],[iA 4,iA l2,.str [],.sl 1 [],.sl 5 []]]] []=oR (.tup [vl 2 (br ((lessF v u)&&(knownB u&&knownB v)) 1 0) (.sl 1 []),okE]):=by
 have h1:=run151vgt hu hv hl (l:=l)
 rw [w75 rfl]
 conv=>lhs;arg 2;whnf
 simp +contextual -implicitDefEqProofs (maxSteps:=9^9) only [↓wkA,↓lv75,↓fz75,↓tbr75,wuH,↓reduceIte,xA,xB,xC,xD,xE,xF,reduceCtorEq,xH,xI,xJ,xK,xL,xM,xN,xO,h1,wbr]
theorem run151vle{u v:LI}(hu:isP u=true)(hv:isP v=true)(hl:u.length=v.length){l:Int}:evW 151 [.str [60,61],vl 4 0 (bitsA u),vl 4 0 (bitsA v),tyA 4 l] []=oR (.tup [vl 2 (br ((!lessF v u)&&(knownB u&&knownB v)) 1 0) (.sl 1 []),okE]):=by
 have h1:=run238 hv hu hl.symm
 have h2:=run237 (c := !lessF v u) hu hv
 rw [w151 rfl]
 conv=>lhs;arg 2;whnf
 simp +contextual -implicitDefEqProofs (maxSteps:=9^9) only [↓wkA,↓lv151,↓fz151,↓tbr151,wuH,↓reduceIte,xA,xB,xC,xD,xE,xF,reduceCtorEq,xH,xI,xJ,xK,xL,xM,xN,xO,h1,h2,okE,wbr]
theorem do_vle{u v:LI}(hu:isP u=true)(hv:isP v=true)(hl:u.length=v.length){l l2:Int}:evW 75 [.str [60,61],.sl 4 [[iA 4,iA 0,bitsA u,.sl 4 []],[iA 4,iA 0,bitsA v,.sl 4 []]],.sl 5 [[iA 4,iA l,.str [],.sl 1 [],.sl 5 []],[iA 4,iA l2,.str [],.sl 1 [],.sl 5 []]]] []=oR (.tup [vl 2 (br ((!lessF v u)&&(knownB u&&knownB v)) 1 0) (.sl 1 []),okE]):=by
 have h1:=run151vle hu hv hl (l:=l)
 rw [w75 rfl]
 conv=>lhs;arg 2;whnf
 simp +contextual -implicitDefEqProofs (maxSteps:=9^9) only [↓wkA,↓lv75,↓fz75,↓tbr75,wuH,↓reduceIte,xA,xB,xC,xD,xE,xF,reduceCtorEq,xH,xI,xJ,xK,xL,xM,xN,xO,h1,wbr]
theorem run151vge{u v:LI}(hu:isP u=true)(hv:isP v=true)(hl:u.length=v.length){l:Int}:evW 151 [.str [62,61],vl 4 0 (bitsA u),vl 4 0 (bitsA v),tyA 4 l] []=oR (.tup [vl 2 (br ((!lessF u v)&&(knownB u&&knownB v)) 1 0) (.sl 1 []),okE]):=by
 have h1:=run238 hu hv hl
 have h2:=run237 (c := !lessF u v) hu hv
 rw [w151 rfl]
 conv=>lhs;arg 2;whnf
 simp +contextual -implicitDefEqProofs (maxSteps:=9^9) only [↓wkA,↓lv151,↓fz151,↓tbr151,wuH,↓reduceIte,xA,xB,xC,xD,xE,xF,reduceCtorEq,xH,xI,xJ,xK,xL,xM,xN,xO,h1,h2,okE,wbr]
theorem do_vge{u v:LI}(hu:isP u=true)(hv:isP v=true)(hl:u.length=v.length){l l2:Int}:evW 75 [.str [62,61],.sl 4 [[iA 4,iA 0,bitsA u,.sl 4 []],[iA 4,iA 0,bitsA v,.sl 4 []]],.sl 5 [[iA 4,iA l,.str [],.sl 1 [],.sl 5 []],[iA 4,iA l2,.str [],.sl 1 [],.sl 5 []]]] []=oR (.tup [vl 2 (br ((!lessF u v)&&(knownB u&&knownB v)) 1 0) (.sl 1 []),okE]):=by
 have h1:=run151vge hu hv hl (l:=l)
 rw [w75 rfl]
 conv=>lhs;arg 2;whnf
 simp +contextual -implicitDefEqProofs (maxSteps:=9^9) only [↓wkA,↓lv75,↓fz75,↓tbr75,wuH,↓reduceIte,xA,xB,xC,xD,xE,xF,reduceCtorEq,xH,xI,xJ,xK,xL,xM,xN,xO,h1,wbr]
theorem do_vadd{u v:LI}(hu:isP u=true)(hv:isP v=true)(hl:u.length=v.length){l l2:Int}:evW 75 [.str [43],.sl 4 [[iA 4,iA 0,bitsA u,.sl 4 []],[iA 4,iA 0,bitsA v,.sl 4 []]],.sl 5 [[iA 4,iA l,.str [],.sl 1 [],.sl 5 []],[iA 4,iA l2,.str [],.sl 1 [],.sl 5 []]]] []=oR (.tup [vl 4 0 (bitsA (cmpF (fun x y=>IntKind.u64.wrap (x+y)) u v)),okE]):=by
 have h1:=run151add hu hv hl (l:=l)
 rw [w75 rfl]
 conv=>lhs;arg 2;whnf
 simp +contextual -implicitDefEqProofs (maxSteps:=9^9) only [↓wkA,↓lv75,↓fz75,↓tbr75,wuH,↓reduceIte,xA,xB,xC,xD,xE,xF,reduceCtorEq,xH,xI,xJ,xK,xL,xM,xN,xO,h1,wbr]
theorem do_vsub{u v:LI}(hu:isP u=true)(hv:isP v=true)(hl:u.length=v.length){l l2:Int}:evW 75 [.str [45],.sl 4 [[iA 4,iA 0,bitsA u,.sl 4 []],[iA 4,iA 0,bitsA v,.sl 4 []]],.sl 5 [[iA 4,iA l,.str [],.sl 1 [],.sl 5 []],[iA 4,iA l2,.str [],.sl 1 [],.sl 5 []]]] []=oR (.tup [vl 4 0 (bitsA (cmpF (fun x y=>IntKind.u64.wrap (x-y)) u v)),okE]):=by
 have h1:=run151sub hu hv hl (l:=l)
 rw [w75 rfl]
 conv=>lhs;arg 2;whnf
 simp +contextual -implicitDefEqProofs (maxSteps:=9^9) only [↓wkA,↓lv75,↓fz75,↓tbr75,wuH,↓reduceIte,xA,xB,xC,xD,xE,xF,reduceCtorEq,xH,xI,xJ,xK,xL,xM,xN,xO,h1,wbr]
theorem do_vmul{u v:LI}(hu:isP u=true)(hv:isP v=true)(hl:u.length=v.length){l l2:Int}:evW 75 [.str [42],.sl 4 [[iA 4,iA 0,bitsA u,.sl 4 []],[iA 4,iA 0,bitsA v,.sl 4 []]],.sl 5 [[iA 4,iA l,.str [],.sl 1 [],.sl 5 []],[iA 4,iA l2,.str [],.sl 1 [],.sl 5 []]]] []=oR (.tup [vl 4 0 (bitsA (cmpF (fun x y=>IntKind.u64.wrap (x*y)) u v)),okE]):=by
 have h1:=run151mul hu hv hl (l:=l)
 rw [w75 rfl]
 conv=>lhs;arg 2;whnf
 simp +contextual -implicitDefEqProofs (maxSteps:=9^9) only [↓wkA,↓lv75,↓fz75,↓tbr75,wuH,↓reduceIte,xA,xB,xC,xD,xE,xF,reduceCtorEq,xH,xI,xJ,xK,xL,xM,xN,xO,h1,wbr]
theorem run165{v:LI}(hl:v.length≤64):evW 165 [bitsA v,iA 0] []=oR (.tup [vl 4 0 (bitsA v),okE]):=by
 have hms:decide (v.length≤most)=true:=by unfold most;simp;omega
 have htk:List.take v.length (v.map fun b=>[AV.int .u8 b])=v.map fun b=>[AV.int .u8 b]:=List.take_of_length_le (by simp)
 have hd:decide (v.length≤v.length)=true:=by simp
 rw [w165 rfl]
 conv=>lhs;arg 2;whnf
 simp +contextual -implicitDefEqProofs (maxSteps:=9^9) only [↓wkA,↓lv165,↓fz165,wuH,↓reduceIte,xA,xB,xC,xD,xE,xF,reduceCtorEq,xH,xI,xJ,xK,xL,xM,xN,xO,hms,htk,hd,bitsA,wbr]
end Go.Proofs.YtdhcgankmhpgeaaGreat.M
