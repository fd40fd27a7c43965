import Derived.Test.YtdhcgankmhpgeaaGreatB27
set_option linter.all false
namespace Go.Proofs.YtdhcgankmhpgeaaGreat.M
open Go
open Nat renaming reduceEqDiff → xA, reduceLT → xB, reduceAdd → xC, reduceMul → xD, reduceSub → xE, reduceDiv → xF, reduceLeDiff → xN
open Int renaming reduceAdd → xH, reduceLE → xI, reduceLT → xJ, reduceToNat → xK, reduceEq → xL, reduceBEq → xM
open UInt8 renaming reduceToNat → xO
set_option maxRecDepth 100000
set_option maxHeartbeats 4000000
attribute [local congr] br_congr ob2_congr cnd_congr gdK_congr ob_congr clK_congr finK_congr reg_congr pkK_congr kTK_congr dlT_congr gck_congr iff2_congr sel_congr dPn_congr apJ_congr nmK_congr kTo_congr fzO_congr rcK_congr lvB_congr crK_congr cdB_congr
theorem wsub1:IntKind.i64.wrap ((1:Int)-1)=0:=by decide
theorem wsub2:IntKind.i64.wrap ((2:Int)-1)=1:=by decide
theorem run80{k l:Int}:evW 80 [tyA k l] []=oR (tyA k l):=ev_le 20 80 _ _ _ (by kernel_rfl)
theorem rop_u_nameG:(∀{s:LU}{k1 n1:Int}{b1:LI}{w1:LA}{q1 l1:Int}{s1:LU}{m1 e1:LA}(h77:evW 77 [.str s] []=oR (.bool false)),evW 24 [.str s,.sl 4 [[iA k1,iA n1,bitsA b1,.sl 4 w1]],.sl 5 [[iA q1,iA l1,.str s1,.sl 1 m1,.sl 5 e1]]] []=oR (.tup [vl 0 0 (.sl 1 []),tyA 0 0,iA 2]))∧(∀{s:LU}{k1 n1:Int}{b1:LI}{w1:LA}{q1 l1:Int}{s1:LU}{m1 e1:LA}(h77:evW 77 [.str s] []=oR (.bool true))(r1:(s==[114,105,115,105,110,103])=true),evW 24 [.str s,.sl 4 [[iA k1,iA n1,bitsA b1,.sl 4 w1]],.sl 5 [[iA q1,iA l1,.str s1,.sl 1 m1,.sl 5 e1]]] []=oR (.tup [vl 0 0 (.sl 1 []),tyA 0 0,iA 2]))∧(∀{s:LU}{k1 n1:Int}{b1:LI}{w1:LA}{q1 l1:Int}{s1:LU}{m1 e1:LA}(h77:evW 77 [.str s] []=oR (.bool true))(r1:(s==[114,105,115,105,110,103])=false)(r2:(s==[102,97,108,108,105,110,103])=true),evW 24 [.str s,.sl 4 [[iA k1,iA n1,bitsA b1,.sl 4 w1]],.sl 5 [[iA q1,iA l1,.str s1,.sl 1 m1,.sl 5 e1]]] []=oR (.tup [vl 0 0 (.sl 1 []),tyA 0 0,iA 2])):=by
 refine⟨?_,?_,?_⟩<;>intros<;>rw [w24 rfl]<;>conv=>lhs;arg 2;whnf
 all_goals simp +contextual -implicitDefEqProofs (maxSteps:=9^9) only [↓wkA,↓lv24,↓fz24,↓tbr24,wuH,↓reduceIte,xA,xB,xC,xD,xE,xF,reduceCtorEq,xH,xI,xJ,xK,xL,xM,xN,xO, *,wbr]
def rop_u_name:=@rop_u_nameG.1
def rop_u_ris:=@rop_u_nameG.2.1
def rop_u_fal:=@rop_u_nameG.2.2
theorem rop_u_has1{s:LU}{k1 n1:Int}{b1:LI}{w1:LA}{q1 l1:Int}{s1:LU}{m1 e1:LA}(h77:evW 77 [.str s] []=oR (.bool true))(r1:(s==[114,105,115,105,110,103])=false)(r2:(s==[102,97,108,108,105,110,103])=false)(g1:evW 34 [.agg [iA q1,iA l1,.str s1,.sl 1 m1,.sl 5 e1],.agg [iA k1,iA n1,bitsA b1,.sl 4 w1]] []=oR (.bool false)):evW 24 [.str s,.sl 4 [[iA k1,iA n1,bitsA b1,.sl 4 w1]],.sl 5 [[iA q1,iA l1,.str s1,.sl 1 m1,.sl 5 e1]]] []=oR (.tup [vl 0 0 (.sl 1 []),tyA 0 0,iA 2]):=by
 rw [w24 rfl]
 conv=>lhs;arg 2;whnf
 simp +contextual -implicitDefEqProofs (maxSteps:=9^9) only [↓wkA,↓lv24,↓fz24,↓tbr24,wuH,↓reduceIte,xA,xB,xC,xD,xE,xF,reduceCtorEq,xH,xI,xJ,xK,xL,xM,xN,xO,h77,r1,r2,wsub1,wsub2,g1,wbr]
 refine(lpX_code (c':=lp Tryz.f24 0) (by kernel_rfl)).trans ?_
 rw [lq24_0]
 try simp +contextual -implicitDefEqProofs (maxSteps:=9^9) only [↓wkA,↓lv24,↓fz24,↓tbr24,wuH,↓reduceIte,xA,xB,xC,xD,xE,xF,reduceCtorEq,xH,xI,xJ,xK,xL,xM,xN,xO,h77,r1,r2,wsub1,wsub2,g1,wbr]
 unfold lpN
 conv=>lhs;arg 2;whnf
 simp +contextual -implicitDefEqProofs (maxSteps:=9^9) only [↓wkA,↓lv24,↓fz24,↓tbr24,wuH,↓reduceIte,xA,xB,xC,xD,xE,xF,reduceCtorEq,xH,xI,xJ,xK,xL,xM,xN,xO,h77,r1,r2,wsub1,wsub2,g1,lq24_0,wbr]
theorem rop_u_type{s:LU}{k1 n1:Int}{b1:LI}{w1:LA}{q1 l1:Int}{s1:LU}{m1 e1:LA}(h77:evW 77 [.str s] []=oR (.bool true))(r1:(s==[114,105,115,105,110,103])=false)(r2:(s==[102,97,108,108,105,110,103])=false)(g1:evW 34 [.agg [iA q1,iA l1,.str s1,.sl 1 m1,.sl 5 e1],.agg [iA k1,iA n1,bitsA b1,.sl 4 w1]] []=oR (.bool true)){kt lt:Int}{st:LU}{mt et:LA}(h78:evW 78 [.str s,.sl 5 [[iA q1,iA l1,.str s1,.sl 1 m1,.sl 5 e1]],iA n1] []=oR (.tup [.agg [iA kt,iA lt,.str st,.sl 1 mt,.sl 5 et],.bool false])):evW 24 [.str s,.sl 4 [[iA k1,iA n1,bitsA b1,.sl 4 w1]],.sl 5 [[iA q1,iA l1,.str s1,.sl 1 m1,.sl 5 e1]]] []=oR (.tup [vl 0 0 (.sl 1 []),tyA 0 0,iA 16]):=by
 rw [w24 rfl]
 conv=>lhs;arg 2;whnf
 simp +contextual -implicitDefEqProofs (maxSteps:=9^9) only [↓wkA,↓lv24,↓fz24,↓tbr24,wuH,↓reduceIte,xA,xB,xC,xD,xE,xF,reduceCtorEq,xH,xI,xJ,xK,xL,xM,xN,xO,h77,r1,r2,wsub1,wsub2,g1,h78,wbr]
 refine(lpX_code (c':=lp Tryz.f24 0) (by kernel_rfl)).trans ?_
 rw [lq24_0]
 try simp +contextual -implicitDefEqProofs (maxSteps:=9^9) only [↓wkA,↓lv24,↓fz24,↓tbr24,wuH,↓reduceIte,xA,xB,xC,xD,xE,xF,reduceCtorEq,xH,xI,xJ,xK,xL,xM,xN,xO,h77,r1,r2,wsub1,wsub2,g1,h78,wbr]
 unfold lpN
 conv=>lhs;arg 2;whnf
 simp +contextual -implicitDefEqProofs (maxSteps:=9^9) only [↓wkA,↓lv24,↓fz24,↓tbr24,wuH,↓reduceIte,xA,xB,xC,xD,xE,xF,reduceCtorEq,xH,xI,xJ,xK,xL,xM,xN,xO,h77,r1,r2,wsub1,wsub2,g1,h78,lq24_0,wbr]
 unfold lpN
 conv=>lhs;arg 2;whnf
 simp +contextual -implicitDefEqProofs (maxSteps:=9^9) only [↓wkA,↓lv24,↓fz24,↓tbr24,wuH,↓reduceIte,xA,xB,xC,xD,xE,xF,reduceCtorEq,xH,xI,xJ,xK,xL,xM,xN,xO,h77,r1,r2,wsub1,wsub2,g1,h78,lq24_0,wbr]
theorem rop_u_err{s:LU}{k1 n1:Int}{b1:LI}{w1:LA}{q1 l1:Int}{s1:LU}{m1 e1:LA}(h77:evW 77 [.str s] []=oR (.bool true))(r1:(s==[114,105,115,105,110,103])=false)(r2:(s==[102,97,108,108,105,110,103])=false)(g1:evW 34 [.agg [iA q1,iA l1,.str s1,.sl 1 m1,.sl 5 e1],.agg [iA k1,iA n1,bitsA b1,.sl 4 w1]] []=oR (.bool true)){kt lt:Int}{st:LU}{mt et:LA}(h78:evW 78 [.str s,.sl 5 [[iA q1,iA l1,.str s1,.sl 1 m1,.sl 5 e1]],iA n1] []=oR (.tup [.agg [iA kt,iA lt,.str st,.sl 1 mt,.sl 5 et],.bool true]))(t1:(s==[116,111,95,118,101,99])=false)(t2:(s==[114,101,115,105,122,101])=false){kv nv e:Int}{bs:LI}(h79:evW 79 [.str s,.sl 4 [[iA k1,iA n1,bitsA b1,.sl 4 w1]]] []=oR (.tup [vl kv nv (bitsA bs),iA e]))(he:(e==0)=false):evW 24 [.str s,.sl 4 [[iA k1,iA n1,bitsA b1,.sl 4 w1]],.sl 5 [[iA q1,iA l1,.str s1,.sl 1 m1,.sl 5 e1]]] []=oR (.tup [vl 0 0 (.sl 1 []),tyA 0 0,iA e]):=by
 rw [w24 rfl]
 conv=>lhs;arg 2;whnf
 simp +contextual -implicitDefEqProofs (maxSteps:=9^9) only [↓wkA,↓lv24,↓fz24,↓tbr24,wuH,↓reduceIte,xA,xB,xC,xD,xE,xF,reduceCtorEq,xH,xI,xJ,xK,xL,xM,xN,xO,h77,r1,r2,wsub1,wsub2,g1,h78,t1,t2,h79,he,wbr]
 refine(lpX_code (c':=lp Tryz.f24 0) (by kernel_rfl)).trans ?_
 rw [lq24_0]
 try simp +contextual -implicitDefEqProofs (maxSteps:=9^9) only [↓wkA,↓lv24,↓fz24,↓tbr24,wuH,↓reduceIte,xA,xB,xC,xD,xE,xF,reduceCtorEq,xH,xI,xJ,xK,xL,xM,xN,xO,h77,r1,r2,wsub1,wsub2,g1,h78,t1,t2,h79,he,wbr]
 unfold lpN
 conv=>lhs;arg 2;whnf
 simp +contextual -implicitDefEqProofs (maxSteps:=9^9) only [↓wkA,↓lv24,↓fz24,↓tbr24,wuH,↓reduceIte,xA,xB,xC,xD,xE,xF,reduceCtorEq,xH,xI,xJ,xK,xL,xM,xN,xO,h77,r1,r2,wsub1,wsub2,g1,h78,t1,t2,h79,he,lq24_0,wbr]
 unfold lpN
 conv=>lhs;arg 2;whnf
 simp +contextual -implicitDefEqProofs (maxSteps:=9^9) only [↓wkA,↓lv24,↓fz24,↓tbr24,wuH,↓reduceIte,xA,xB,xC,xD,xE,xF,reduceCtorEq,xH,xI,xJ,xK,xL,xM,xN,xO,h77,r1,r2,wsub1,wsub2,g1,h78,t1,t2,h79,he,lq24_0,wbr]
theorem rop_u_ok{s:LU}{k1 n1:Int}{b1:LI}{w1:LA}{q1 l1:Int}{s1:LU}{m1 e1:LA}(h77:evW 77 [.str s] []=oR (.bool true))(r1:(s==[114,105,115,105,110,103])=false)(r2:(s==[102,97,108,108,105,110,103])=false)(g1:evW 34 [.agg [iA q1,iA l1,.str s1,.sl 1 m1,.sl 5 e1],.agg [iA k1,iA n1,bitsA b1,.sl 4 w1]] []=oR (.bool true)){kt lt:Int}(h78:evW 78 [.str s,.sl 5 [[iA q1,iA l1,.str s1,.sl 1 m1,.sl 5 e1]],iA n1] []=oR (.tup [tyA kt lt,.bool true]))(t1:(s==[116,111,95,118,101,99])=false)(t2:(s==[114,101,115,105,122,101])=false){kv nv:Int}{bs:LI}(h79:evW 79 [.str s,.sl 4 [[iA k1,iA n1,bitsA b1,.sl 4 w1]]] []=oR (.tup [vl kv nv (bitsA bs),iA 0])):evW 24 [.str s,.sl 4 [[iA k1,iA n1,bitsA b1,.sl 4 w1]],.sl 5 [[iA q1,iA l1,.str s1,.sl 1 m1,.sl 5 e1]]] []=oR (.tup [vl kv nv (bitsA bs),tyA kt lt,okE]):=by
 rw [w24 rfl]
 conv=>lhs;arg 2;whnf
 simp +contextual -implicitDefEqProofs (maxSteps:=9^9) only [↓wkA,↓lv24,↓fz24,↓tbr24,wuH,↓reduceIte,xA,xB,xC,xD,xE,xF,reduceCtorEq,xH,xI,xJ,xK,xL,xM,xN,xO,h77,r1,r2,wsub1,wsub2,g1,h78,t1,t2,h79,run80,wbr]
 refine(lpX_code (c':=lp Tryz.f24 0) (by kernel_rfl)).trans ?_
 rw [lq24_0]
 try simp +contextual -implicitDefEqProofs (maxSteps:=9^9) only [↓wkA,↓lv24,↓fz24,↓tbr24,wuH,↓reduceIte,xA,xB,xC,xD,xE,xF,reduceCtorEq,xH,xI,xJ,xK,xL,xM,xN,xO,h77,r1,r2,wsub1,wsub2,g1,h78,t1,t2,h79,run80,wbr]
 unfold lpN
 conv=>lhs;arg 2;whnf
 simp +contextual -implicitDefEqProofs (maxSteps:=9^9) only [↓wkA,↓lv24,↓fz24,↓tbr24,wuH,↓reduceIte,xA,xB,xC,xD,xE,xF,reduceCtorEq,xH,xI,xJ,xK,xL,xM,xN,xO,h77,r1,r2,wsub1,wsub2,g1,h78,t1,t2,h79,run80,lq24_0,wbr]
 unfold lpN
 conv=>lhs;arg 2;whnf
 simp +contextual -implicitDefEqProofs (maxSteps:=9^9) only [↓wkA,↓lv24,↓fz24,↓tbr24,wuH,↓reduceIte,xA,xB,xC,xD,xE,xF,reduceCtorEq,xH,xI,xJ,xK,xL,xM,xN,xO,h77,r1,r2,wsub1,wsub2,g1,h78,t1,t2,h79,run80,lq24_0,wbr]
theorem rop_b_nameG:(∀{s:LU}{k1 n1:Int}{b1:LI}{w1:LA}{q1 l1:Int}{s1:LU}{m1 e1:LA}{k2 n2:Int}{b2:LI}{w2:LA}{q2 l2:Int}{s2:LU}{m2 e2:LA}(h77:evW 77 [.str s] []=oR (.bool false)),evW 24 [.str s,.sl 4 [[iA k1,iA n1,bitsA b1,.sl 4 w1],[iA k2,iA n2,bitsA b2,.sl 4 w2]],.sl 5 [[iA q1,iA l1,.str s1,.sl 1 m1,.sl 5 e1],[iA q2,iA l2,.str s2,.sl 1 m2,.sl 5 e2]]] []=oR (.tup [vl 0 0 (.sl 1 []),tyA 0 0,iA 2]))∧(∀{s:LU}{k1 n1:Int}{b1:LI}{w1:LA}{q1 l1:Int}{s1:LU}{m1 e1:LA}{k2 n2:Int}{b2:LI}{w2:LA}{q2 l2:Int}{s2:LU}{m2 e2:LA}(h77:evW 77 [.str s] []=oR (.bool true))(r1:(s==[114,105,115,105,110,103])=true),evW 24 [.str s,.sl 4 [[iA k1,iA n1,bitsA b1,.sl 4 w1],[iA k2,iA n2,bitsA b2,.sl 4 w2]],.sl 5 [[iA q1,iA l1,.str s1,.sl 1 m1,.sl 5 e1],[iA q2,iA l2,.str s2,.sl 1 m2,.sl 5 e2]]] []=oR (.tup [vl 0 0 (.sl 1 []),tyA 0 0,iA 2]))∧(∀{s:LU}{k1 n1:Int}{b1:LI}{w1:LA}{q1 l1:Int}{s1:LU}{m1 e1:LA}{k2 n2:Int}{b2:LI}{w2:LA}{q2 l2:Int}{s2:LU}{m2 e2:LA}(h77:evW 77 [.str s] []=oR (.bool true))(r1:(s==[114,105,115,105,110,103])=false)(r2:(s==[102,97,108,108,105,110,103])=true),evW 24 [.str s,.sl 4 [[iA k1,iA n1,bitsA b1,.sl 4 w1],[iA k2,iA n2,bitsA b2,.sl 4 w2]],.sl 5 [[iA q1,iA l1,.str s1,.sl 1 m1,.sl 5 e1],[iA q2,iA l2,.str s2,.sl 1 m2,.sl 5 e2]]] []=oR (.tup [vl 0 0 (.sl 1 []),tyA 0 0,iA 2])):=by
 refine⟨?_,?_,?_⟩<;>intros<;>rw [w24 rfl]<;>conv=>lhs;arg 2;whnf
 all_goals simp +contextual -implicitDefEqProofs (maxSteps:=9^9) only [↓wkA,↓lv24,↓fz24,↓tbr24,wuH,↓reduceIte,xA,xB,xC,xD,xE,xF,reduceCtorEq,xH,xI,xJ,xK,xL,xM,xN,xO, *,wbr]
def rop_b_name:=@rop_b_nameG.1
def rop_b_ris:=@rop_b_nameG.2.1
def rop_b_fal:=@rop_b_nameG.2.2
theorem rop_b_has1{s:LU}{k1 n1:Int}{b1:LI}{w1:LA}{q1 l1:Int}{s1:LU}{m1 e1:LA}{k2 n2:Int}{b2:LI}{w2:LA}{q2 l2:Int}{s2:LU}{m2 e2:LA}(h77:evW 77 [.str s] []=oR (.bool true))(r1:(s==[114,105,115,105,110,103])=false)(r2:(s==[102,97,108,108,105,110,103])=false)(g1:evW 34 [.agg [iA q1,iA l1,.str s1,.sl 1 m1,.sl 5 e1],.agg [iA k1,iA n1,bitsA b1,.sl 4 w1]] []=oR (.bool false)):evW 24 [.str s,.sl 4 [[iA k1,iA n1,bitsA b1,.sl 4 w1],[iA k2,iA n2,bitsA b2,.sl 4 w2]],.sl 5 [[iA q1,iA l1,.str s1,.sl 1 m1,.sl 5 e1],[iA q2,iA l2,.str s2,.sl 1 m2,.sl 5 e2]]] []=oR (.tup [vl 0 0 (.sl 1 []),tyA 0 0,iA 2]):=by
 rw [w24 rfl]
 conv=>lhs;arg 2;whnf
 simp +contextual -implicitDefEqProofs (maxSteps:=9^9) only [↓wkA,↓lv24,↓fz24,↓tbr24,wuH,↓reduceIte,xA,xB,xC,xD,xE,xF,reduceCtorEq,xH,xI,xJ,xK,xL,xM,xN,xO,h77,r1,r2,wsub1,wsub2,g1,wbr]
 refine(lpX_code (c':=lp Tryz.f24 0) (by kernel_rfl)).trans ?_
 rw [lq24_0]
 try simp +contextual -implicitDefEqProofs (maxSteps:=9^9) only [↓wkA,↓lv24,↓fz24,↓tbr24,wuH,↓reduceIte,xA,xB,xC,xD,xE,xF,reduceCtorEq,xH,xI,xJ,xK,xL,xM,xN,xO,h77,r1,r2,wsub1,wsub2,g1,wbr]
 unfold lpN
 conv=>lhs;arg 2;whnf
 simp +contextual -implicitDefEqProofs (maxSteps:=9^9) only [↓wkA,↓lv24,↓fz24,↓tbr24,wuH,↓reduceIte,xA,xB,xC,xD,xE,xF,reduceCtorEq,xH,xI,xJ,xK,xL,xM,xN,xO,h77,r1,r2,wsub1,wsub2,g1,lq24_0,wbr]
theorem rop_b_has2{s:LU}{k1 n1:Int}{b1:LI}{w1:LA}{q1 l1:Int}{s1:LU}{m1 e1:LA}{k2 n2:Int}{b2:LI}{w2:LA}{q2 l2:Int}{s2:LU}{m2 e2:LA}(h77:evW 77 [.str s] []=oR (.bool true))(r1:(s==[114,105,115,105,110,103])=false)(r2:(s==[102,97,108,108,105,110,103])=false)(g1:evW 34 [.agg [iA q1,iA l1,.str s1,.sl 1 m1,.sl 5 e1],.agg [iA k1,iA n1,bitsA b1,.sl 4 w1]] []=oR (.bool true))(g2:evW 34 [.agg [iA q2,iA l2,.str s2,.sl 1 m2,.sl 5 e2],.agg [iA k2,iA n2,bitsA b2,.sl 4 w2]] []=oR (.bool false)):evW 24 [.str s,.sl 4 [[iA k1,iA n1,bitsA b1,.sl 4 w1],[iA k2,iA n2,bitsA b2,.sl 4 w2]],.sl 5 [[iA q1,iA l1,.str s1,.sl 1 m1,.sl 5 e1],[iA q2,iA l2,.str s2,.sl 1 m2,.sl 5 e2]]] []=oR (.tup [vl 0 0 (.sl 1 []),tyA 0 0,iA 2]):=by
 rw [w24 rfl]
 conv=>lhs;arg 2;whnf
 simp +contextual -implicitDefEqProofs (maxSteps:=9^9) only [↓wkA,↓lv24,↓fz24,↓tbr24,wuH,↓reduceIte,xA,xB,xC,xD,xE,xF,reduceCtorEq,xH,xI,xJ,xK,xL,xM,xN,xO,h77,r1,r2,wsub1,wsub2,g1,g2,wbr]
 refine(lpX_code (c':=lp Tryz.f24 0) (by kernel_rfl)).trans ?_
 rw [lq24_0]
 try simp +contextual -implicitDefEqProofs (maxSteps:=9^9) only [↓wkA,↓lv24,↓fz24,↓tbr24,wuH,↓reduceIte,xA,xB,xC,xD,xE,xF,reduceCtorEq,xH,xI,xJ,xK,xL,xM,xN,xO,h77,r1,r2,wsub1,wsub2,g1,g2,wbr]
 unfold lpN
 conv=>lhs;arg 2;whnf
 simp +contextual -implicitDefEqProofs (maxSteps:=9^9) only [↓wkA,↓lv24,↓fz24,↓tbr24,wuH,↓reduceIte,xA,xB,xC,xD,xE,xF,reduceCtorEq,xH,xI,xJ,xK,xL,xM,xN,xO,h77,r1,r2,wsub1,wsub2,g1,g2,lq24_0,wbr]
 unfold lpN
 conv=>lhs;arg 2;whnf
 simp +contextual -implicitDefEqProofs (maxSteps:=9^9) only [↓wkA,↓lv24,↓fz24,↓tbr24,wuH,↓reduceIte,xA,xB,xC,xD,xE,xF,reduceCtorEq,xH,xI,xJ,xK,xL,xM,xN,xO,h77,r1,r2,wsub1,wsub2,g1,g2,lq24_0,wbr]
theorem rop_b_type{s:LU}{k1 n1:Int}{b1:LI}{w1:LA}{q1 l1:Int}{s1:LU}{m1 e1:LA}{k2 n2:Int}{b2:LI}{w2:LA}{q2 l2:Int}{s2:LU}{m2 e2:LA}(h77:evW 77 [.str s] []=oR (.bool true))(r1:(s==[114,105,115,105,110,103])=false)(r2:(s==[102,97,108,108,105,110,103])=false)(g1:evW 34 [.agg [iA q1,iA l1,.str s1,.sl 1 m1,.sl 5 e1],.agg [iA k1,iA n1,bitsA b1,.sl 4 w1]] []=oR (.bool true))(g2:evW 34 [.agg [iA q2,iA l2,.str s2,.sl 1 m2,.sl 5 e2],.agg [iA k2,iA n2,bitsA b2,.sl 4 w2]] []=oR (.bool true)){kt lt:Int}{st:LU}{mt et:LA}(h78:evW 78 [.str s,.sl 5 [[iA q1,iA l1,.str s1,.sl 1 m1,.sl 5 e1],[iA q2,iA l2,.str s2,.sl 1 m2,.sl 5 e2]],iA n2] []=oR (.tup [.agg [iA kt,iA lt,.str st,.sl 1 mt,.sl 5 et],.bool false])):evW 24 [.str s,.sl 4 [[iA k1,iA n1,bitsA b1,.sl 4 w1],[iA k2,iA n2,bitsA b2,.sl 4 w2]],.sl 5 [[iA q1,iA l1,.str s1,.sl 1 m1,.sl 5 e1],[iA q2,iA l2,.str s2,.sl 1 m2,.sl 5 e2]]] []=oR (.tup [vl 0 0 (.sl 1 []),tyA 0 0,iA 16]):=by
 rw [w24 rfl]
 conv=>lhs;arg 2;whnf
 simp +contextual -implicitDefEqProofs (maxSteps:=9^9) only [↓wkA,↓lv24,↓fz24,↓tbr24,wuH,↓reduceIte,xA,xB,xC,xD,xE,xF,reduceCtorEq,xH,xI,xJ,xK,xL,xM,xN,xO,h77,r1,r2,wsub1,wsub2,g1,g2,h78,wbr]
 refine(lpX_code (c':=lp Tryz.f24 0) (by kernel_rfl)).trans ?_
 rw [lq24_0]
 try simp +contextual -implicitDefEqProofs (maxSteps:=9^9) only [↓wkA,↓lv24,↓fz24,↓tbr24,wuH,↓reduceIte,xA,xB,xC,xD,xE,xF,reduceCtorEq,xH,xI,xJ,xK,xL,xM,xN,xO,h77,r1,r2,wsub1,wsub2,g1,g2,h78,wbr]
 unfold lpN
 conv=>lhs;arg 2;whnf
 simp +contextual -implicitDefEqProofs (maxSteps:=9^9) only [↓wkA,↓lv24,↓fz24,↓tbr24,wuH,↓reduceIte,xA,xB,xC,xD,xE,xF,reduceCtorEq,xH,xI,xJ,xK,xL,xM,xN,xO,h77,r1,r2,wsub1,wsub2,g1,g2,h78,lq24_0,wbr]
 unfold lpN
 conv=>lhs;arg 2;whnf
 simp +contextual -implicitDefEqProofs (maxSteps:=9^9) only [↓wkA,↓lv24,↓fz24,↓tbr24,wuH,↓reduceIte,xA,xB,xC,xD,xE,xF,reduceCtorEq,xH,xI,xJ,xK,xL,xM,xN,xO,h77,r1,r2,wsub1,wsub2,g1,g2,h78,lq24_0,wbr]
 unfold lpN
 conv=>lhs;arg 2;whnf
 simp +contextual -implicitDefEqProofs (maxSteps:=9^9) only [↓wkA,↓lv24,↓fz24,↓tbr24,wuH,↓reduceIte,xA,xB,xC,xD,xE,xF,reduceCtorEq,xH,xI,xJ,xK,xL,xM,xN,xO,h77,r1,r2,wsub1,wsub2,g1,g2,h78,lq24_0,wbr]
theorem rop_b_err{s:LU}{k1 n1:Int}{b1:LI}{w1:LA}{q1 l1:Int}{s1:LU}{m1 e1:LA}{k2 n2:Int}{b2:LI}{w2:LA}{q2 l2:Int}{s2:LU}{m2 e2:LA}(h77:evW 77 [.str s] []=oR (.bool true))(r1:(s==[114,105,115,105,110,103])=false)(r2:(s==[102,97,108,108,105,110,103])=false)(g1:evW 34 [.agg [iA q1,iA l1,.str s1,.sl 1 m1,.sl 5 e1],.agg [iA k1,iA n1,bitsA b1,.sl 4 w1]] []=oR (.bool true))(g2:evW 34 [.agg [iA q2,iA l2,.str s2,.sl 1 m2,.sl 5 e2],.agg [iA k2,iA n2,bitsA b2,.sl 4 w2]] []=oR (.bool true)){kt lt:Int}{st:LU}{mt et:LA}(h78:evW 78 [.str s,.sl 5 [[iA q1,iA l1,.str s1,.sl 1 m1,.sl 5 e1],[iA q2,iA l2,.str s2,.sl 1 m2,.sl 5 e2]],iA n2] []=oR (.tup [.agg [iA kt,iA lt,.str st,.sl 1 mt,.sl 5 et],.bool true]))(t1:(s==[116,111,95,118,101,99])=false)(t2:(s==[114,101,115,105,122,101])=false){kv nv e:Int}{bs:LI}(h79:evW 79 [.str s,.sl 4 [[iA k1,iA n1,bitsA b1,.sl 4 w1],[iA k2,iA n2,bitsA b2,.sl 4 w2]]] []=oR (.tup [vl kv nv (bitsA bs),iA e]))(he:(e==0)=false):evW 24 [.str s,.sl 4 [[iA k1,iA n1,bitsA b1,.sl 4 w1],[iA k2,iA n2,bitsA b2,.sl 4 w2]],.sl 5 [[iA q1,iA l1,.str s1,.sl 1 m1,.sl 5 e1],[iA q2,iA l2,.str s2,.sl 1 m2,.sl 5 e2]]] []=oR (.tup [vl 0 0 (.sl 1 []),tyA 0 0,iA e]):=by
 rw [w24 rfl]
 conv=>lhs;arg 2;whnf
 simp +contextual -implicitDefEqProofs (maxSteps:=9^9) only [↓wkA,↓lv24,↓fz24,↓tbr24,wuH,↓reduceIte,xA,xB,xC,xD,xE,xF,reduceCtorEq,xH,xI,xJ,xK,xL,xM,xN,xO,h77,r1,r2,wsub1,wsub2,g1,g2,h78,t1,t2,h79,he,wbr]
 refine(lpX_code (c':=lp Tryz.f24 0) (by kernel_rfl)).trans ?_
 rw [lq24_0]
 try simp +contextual -implicitDefEqProofs (maxSteps:=9^9) only [↓wkA,↓lv24,↓fz24,↓tbr24,wuH,↓reduceIte,xA,xB,xC,xD,xE,xF,reduceCtorEq,xH,xI,xJ,xK,xL,xM,xN,xO,h77,r1,r2,wsub1,wsub2,g1,g2,h78,t1,t2,h79,he,wbr]
 unfold lpN
 conv=>lhs;arg 2;whnf
 simp +contextual -implicitDefEqProofs (maxSteps:=9^9) only [↓wkA,↓lv24,↓fz24,↓tbr24,wuH,↓reduceIte,xA,xB,xC,xD,xE,xF,reduceCtorEq,xH,xI,xJ,xK,xL,xM,xN,xO,h77,r1,r2,wsub1,wsub2,g1,g2,h78,t1,t2,h79,he,lq24_0,wbr]
 unfold lpN
 conv=>lhs;arg 2;whnf
 simp +contextual -implicitDefEqProofs (maxSteps:=9^9) only [↓wkA,↓lv24,↓fz24,↓tbr24,wuH,↓reduceIte,xA,xB,xC,xD,xE,xF,reduceCtorEq,xH,xI,xJ,xK,xL,xM,xN,xO,h77,r1,r2,wsub1,wsub2,g1,g2,h78,t1,t2,h79,he,lq24_0,wbr]
 unfold lpN
 conv=>lhs;arg 2;whnf
 simp +contextual -implicitDefEqProofs (maxSteps:=9^9) only [↓wkA,↓lv24,↓fz24,↓tbr24,wuH,↓reduceIte,xA,xB,xC,xD,xE,xF,reduceCtorEq,xH,xI,xJ,xK,xL,xM,xN,xO,h77,r1,r2,wsub1,wsub2,g1,g2,h78,t1,t2,h79,he,lq24_0,wbr]
theorem rop_b_ok{s:LU}{k1 n1:Int}{b1:LI}{w1:LA}{q1 l1:Int}{s1:LU}{m1 e1:LA}{k2 n2:Int}{b2:LI}{w2:LA}{q2 l2:Int}{s2:LU}{m2 e2:LA}(h77:evW 77 [.str s] []=oR (.bool true))(r1:(s==[114,105,115,105,110,103])=false)(r2:(s==[102,97,108,108,105,110,103])=false)(g1:evW 34 [.agg [iA q1,iA l1,.str s1,.sl 1 m1,.sl 5 e1],.agg [iA k1,iA n1,bitsA b1,.sl 4 w1]] []=oR (.bool true))(g2:evW 34 [.agg [iA q2,iA l2,.str s2,.sl 1 m2,.sl 5 e2],.agg [iA k2,iA n2,bitsA b2,.sl 4 w2]] []=oR (.bool true)){kt lt:Int}(h78:evW 78 [.str s,.sl 5 [[iA q1,iA l1,.str s1,.sl 1 m1,.sl 5 e1],[iA q2,iA l2,.str s2,.sl 1 m2,.sl 5 e2]],iA n2] []=oR (.tup [tyA kt lt,.bool true]))(t1:(s==[116,111,95,118,101,99])=false)(t2:(s==[114,101,115,105,122,101])=false){kv nv:Int}{bs:LI}(h79:evW 79 [.str s,.sl 4 [[iA k1,iA n1,bitsA b1,.sl 4 w1],[iA k2,iA n2,bitsA b2,.sl 4 w2]]] []=oR (.tup [vl kv nv (bitsA bs),iA 0])):evW 24 [.str s,.sl 4 [[iA k1,iA n1,bitsA b1,.sl 4 w1],[iA k2,iA n2,bitsA b2,.sl 4 w2]],.sl 5 [[iA q1,iA l1,.str s1,.sl 1 m1,.sl 5 e1],[iA q2,iA l2,.str s2,.sl 1 m2,.sl 5 e2]]] []=oR (.tup [vl kv nv (bitsA bs),tyA kt lt,okE]):=by
 rw [w24 rfl]
 conv=>lhs;arg 2;whnf
 simp +contextual -implicitDefEqProofs (maxSteps:=9^9) only [↓wkA,↓lv24,↓fz24,↓tbr24,wuH,↓reduceIte,xA,xB,xC,xD,xE,xF,reduceCtorEq,xH,xI,xJ,xK,xL,xM,xN,xO,h77,r1,r2,wsub1,wsub2,g1,g2,h78,t1,t2,h79,run80,wbr]
 refine(lpX_code (c':=lp Tryz.f24 0) (by kernel_rfl)).trans ?_
 rw [lq24_0]
 try simp +contextual -implicitDefEqProofs (maxSteps:=9^9) only [↓wkA,↓lv24,↓fz24,↓tbr24,wuH,↓reduceIte,xA,xB,xC,xD,xE,xF,reduceCtorEq,xH,xI,xJ,xK,xL,xM,xN,xO,h77,r1,r2,wsub1,wsub2,g1,g2,h78,t1,t2,h79,run80,wbr]
 unfold lpN
 conv=>lhs;arg 2;whnf
 simp +contextual -implicitDefEqProofs (maxSteps:=9^9) only [↓wkA,↓lv24,↓fz24,↓tbr24,wuH,↓reduceIte,xA,xB,xC,xD,xE,xF,reduceCtorEq,xH,xI,xJ,xK,xL,xM,xN,xO,h77,r1,r2,wsub1,wsub2,g1,g2,h78,t1,t2,h79,run80,lq24_0,wbr]
 unfold lpN
 conv=>lhs;arg 2;whnf
 simp +contextual -implicitDefEqProofs (maxSteps:=9^9) only [↓wkA,↓lv24,↓fz24,↓tbr24,wuH,↓reduceIte,xA,xB,xC,xD,xE,xF,reduceCtorEq,xH,xI,xJ,xK,xL,xM,xN,xO,h77,r1,r2,wsub1,wsub2,g1,g2,h78,t1,t2,h79,run80,lq24_0,wbr]
 unfold lpN
 conv=>lhs;arg 2;whnf
 simp +contextual -implicitDefEqProofs (maxSteps:=9^9) only [↓wkA,↓lv24,↓fz24,↓tbr24,wuH,↓reduceIte,xA,xB,xC,xD,xE,xF,reduceCtorEq,xH,xI,xJ,xK,xL,xM,xN,xO,h77,r1,r2,wsub1,wsub2,g1,g2,h78,t1,t2,h79,run80,lq24_0,wbr]
theorem rop_tvlo{s:LU}{k1 n1:Int}{b1:LI}{w1:LA}{q1 l1:Int}{s1:LU}{m1 e1:LA}{k2 n2:Int}{b2:LI}{w2:LA}{q2 l2:Int}{s2:LU}{m2 e2:LA}(h77:evW 77 [.str s] []=oR (.bool true))(r1:(s==[114,105,115,105,110,103])=false)(r2:(s==[102,97,108,108,105,110,103])=false)(g1:evW 34 [.agg [iA q1,iA l1,.str s1,.sl 1 m1,.sl 5 e1],.agg [iA k1,iA n1,bitsA b1,.sl 4 w1]] []=oR (.bool true))(g2:evW 34 [.agg [iA q2,iA l2,.str s2,.sl 1 m2,.sl 5 e2],.agg [iA k2,iA n2,bitsA b2,.sl 4 w2]] []=oR (.bool true)){kt lt:Int}(h78:evW 78 [.str s,.sl 5 [[iA q1,iA l1,.str s1,.sl 1 m1,.sl 5 e1],[iA q2,iA l2,.str s2,.sl 1 m2,.sl 5 e2]],iA n2] []=oR (.tup [tyA kt lt,.bool true]))(t1:(s==[116,111,95,118,101,99])=true)(c1:decide (n2<1)=true):evW 24 [.str s,.sl 4 [[iA k1,iA n1,bitsA b1,.sl 4 w1],[iA k2,iA n2,bitsA b2,.sl 4 w2]],.sl 5 [[iA q1,iA l1,.str s1,.sl 1 m1,.sl 5 e1],[iA q2,iA l2,.str s2,.sl 1 m2,.sl 5 e2]]] []=oR (.tup [vl 0 0 (.sl 1 []),tyA 0 0,iA 19]):=by
 rw [w24 rfl]
 conv=>lhs;arg 2;whnf
 simp +contextual -implicitDefEqProofs (maxSteps:=9^9) only [↓wkA,↓lv24,↓fz24,↓tbr24,wuH,↓reduceIte,xA,xB,xC,xD,xE,xF,reduceCtorEq,xH,xI,xJ,xK,xL,xM,xN,xO,h77,r1,r2,wsub1,wsub2,g1,g2,h78,c1,t1,wbr]
 refine(lpX_code (c':=lp Tryz.f24 0) (by kernel_rfl)).trans ?_
 rw [lq24_0]
 try simp +contextual -implicitDefEqProofs (maxSteps:=9^9) only [↓wkA,↓lv24,↓fz24,↓tbr24,wuH,↓reduceIte,xA,xB,xC,xD,xE,xF,reduceCtorEq,xH,xI,xJ,xK,xL,xM,xN,xO,h77,r1,r2,wsub1,wsub2,g1,g2,h78,c1,t1,wbr]
 unfold lpN
 conv=>lhs;arg 2;whnf
 simp +contextual -implicitDefEqProofs (maxSteps:=9^9) only [↓wkA,↓lv24,↓fz24,↓tbr24,wuH,↓reduceIte,xA,xB,xC,xD,xE,xF,reduceCtorEq,xH,xI,xJ,xK,xL,xM,xN,xO,h77,r1,r2,wsub1,wsub2,g1,g2,h78,c1,t1,lq24_0,wbr]
 unfold lpN
 conv=>lhs;arg 2;whnf
 simp +contextual -implicitDefEqProofs (maxSteps:=9^9) only [↓wkA,↓lv24,↓fz24,↓tbr24,wuH,↓reduceIte,xA,xB,xC,xD,xE,xF,reduceCtorEq,xH,xI,xJ,xK,xL,xM,xN,xO,h77,r1,r2,wsub1,wsub2,g1,g2,h78,c1,t1,lq24_0,wbr]
 unfold lpN
 conv=>lhs;arg 2;whnf
 simp +contextual -implicitDefEqProofs (maxSteps:=9^9) only [↓wkA,↓lv24,↓fz24,↓tbr24,wuH,↓reduceIte,xA,xB,xC,xD,xE,xF,reduceCtorEq,xH,xI,xJ,xK,xL,xM,xN,xO,h77,r1,r2,wsub1,wsub2,g1,g2,h78,c1,t1,lq24_0,wbr]
theorem rop_tvhi{s:LU}{k1 n1:Int}{b1:LI}{w1:LA}{q1 l1:Int}{s1:LU}{m1 e1:LA}{k2 n2:Int}{b2:LI}{w2:LA}{q2 l2:Int}{s2:LU}{m2 e2:LA}(h77:evW 77 [.str s] []=oR (.bool true))(r1:(s==[114,105,115,105,110,103])=false)(r2:(s==[102,97,108,108,105,110,103])=false)(g1:evW 34 [.agg [iA q1,iA l1,.str s1,.sl 1 m1,.sl 5 e1],.agg [iA k1,iA n1,bitsA b1,.sl 4 w1]] []=oR (.bool true))(g2:evW 34 [.agg [iA q2,iA l2,.str s2,.sl 1 m2,.sl 5 e2],.agg [iA k2,iA n2,bitsA b2,.sl 4 w2]] []=oR (.bool true)){kt lt:Int}(h78:evW 78 [.str s,.sl 5 [[iA q1,iA l1,.str s1,.sl 1 m1,.sl 5 e1],[iA q2,iA l2,.str s2,.sl 1 m2,.sl 5 e2]],iA n2] []=oR (.tup [tyA kt lt,.bool true]))(t1:(s==[116,111,95,118,101,99])=true)(c1:decide (n2<1)=false)(c2:decide (64<n2)=true):evW 24 [.str s,.sl 4 [[iA k1,iA n1,bitsA b1,.sl 4 w1],[iA k2,iA n2,bitsA b2,.sl 4 w2]],.sl 5 [[iA q1,iA l1,.str s1,.sl 1 m1,.sl 5 e1],[iA q2,iA l2,.str s2,.sl 1 m2,.sl 5 e2]]] []=oR (.tup [vl 0 0 (.sl 1 []),tyA 0 0,iA 19]):=by
 rw [w24 rfl]
 conv=>lhs;arg 2;whnf
 simp +contextual -implicitDefEqProofs (maxSteps:=9^9) only [↓wkA,↓lv24,↓fz24,↓tbr24,wuH,↓reduceIte,xA,xB,xC,xD,xE,xF,reduceCtorEq,xH,xI,xJ,xK,xL,xM,xN,xO,h77,r1,r2,wsub1,wsub2,g1,g2,h78,c1,c2,t1,wbr]
 refine(lpX_code (c':=lp Tryz.f24 0) (by kernel_rfl)).trans ?_
 rw [lq24_0]
 try simp +contextual -implicitDefEqProofs (maxSteps:=9^9) only [↓wkA,↓lv24,↓fz24,↓tbr24,wuH,↓reduceIte,xA,xB,xC,xD,xE,xF,reduceCtorEq,xH,xI,xJ,xK,xL,xM,xN,xO,h77,r1,r2,wsub1,wsub2,g1,g2,h78,c1,c2,t1,wbr]
 unfold lpN
 conv=>lhs;arg 2;whnf
 simp +contextual -implicitDefEqProofs (maxSteps:=9^9) only [↓wkA,↓lv24,↓fz24,↓tbr24,wuH,↓reduceIte,xA,xB,xC,xD,xE,xF,reduceCtorEq,xH,xI,xJ,xK,xL,xM,xN,xO,h77,r1,r2,wsub1,wsub2,g1,g2,h78,c1,c2,t1,lq24_0,wbr]
 unfold lpN
 conv=>lhs;arg 2;whnf
 simp +contextual -implicitDefEqProofs (maxSteps:=9^9) only [↓wkA,↓lv24,↓fz24,↓tbr24,wuH,↓reduceIte,xA,xB,xC,xD,xE,xF,reduceCtorEq,xH,xI,xJ,xK,xL,xM,xN,xO,h77,r1,r2,wsub1,wsub2,g1,g2,h78,c1,c2,t1,lq24_0,wbr]
 unfold lpN
 conv=>lhs;arg 2;whnf
 simp +contextual -implicitDefEqProofs (maxSteps:=9^9) only [↓wkA,↓lv24,↓fz24,↓tbr24,wuH,↓reduceIte,xA,xB,xC,xD,xE,xF,reduceCtorEq,xH,xI,xJ,xK,xL,xM,xN,xO,h77,r1,r2,wsub1,wsub2,g1,g2,h78,c1,c2,t1,lq24_0,wbr]
theorem rop_tvok{s:LU}{k1 n1:Int}{b1:LI}{w1:LA}{q1 l1:Int}{s1:LU}{m1 e1:LA}{k2 n2:Int}{b2:LI}{w2:LA}{q2 l2:Int}{s2:LU}{m2 e2:LA}(h77:evW 77 [.str s] []=oR (.bool true))(r1:(s==[114,105,115,105,110,103])=false)(r2:(s==[102,97,108,108,105,110,103])=false)(g1:evW 34 [.agg [iA q1,iA l1,.str s1,.sl 1 m1,.sl 5 e1],.agg [iA k1,iA n1,bitsA b1,.sl 4 w1]] []=oR (.bool true))(g2:evW 34 [.agg [iA q2,iA l2,.str s2,.sl 1 m2,.sl 5 e2],.agg [iA k2,iA n2,bitsA b2,.sl 4 w2]] []=oR (.bool true)){kt lt:Int}(h78:evW 78 [.str s,.sl 5 [[iA q1,iA l1,.str s1,.sl 1 m1,.sl 5 e1],[iA q2,iA l2,.str s2,.sl 1 m2,.sl 5 e2]],iA n2] []=oR (.tup [tyA kt lt,.bool true]))(t1:(s==[116,111,95,118,101,99])=true)(c1:decide (n2<1)=false)(c2:decide (64<n2)=false){kv nv:Int}{bs:LI}(h79:evW 79 [.str s,.sl 4 [[iA k1,iA n1,bitsA b1,.sl 4 w1],[iA k2,iA n2,bitsA b2,.sl 4 w2]]] []=oR (.tup [vl kv nv (bitsA bs),iA 0])):evW 24 [.str s,.sl 4 [[iA k1,iA n1,bitsA b1,.sl 4 w1],[iA k2,iA n2,bitsA b2,.sl 4 w2]],.sl 5 [[iA q1,iA l1,.str s1,.sl 1 m1,.sl 5 e1],[iA q2,iA l2,.str s2,.sl 1 m2,.sl 5 e2]]] []=oR (.tup [vl kv nv (bitsA bs),tyA kt lt,okE]):=by
 rw [w24 rfl]
 conv=>lhs;arg 2;whnf
 simp +contextual -implicitDefEqProofs (maxSteps:=9^9) only [↓wkA,↓lv24,↓fz24,↓tbr24,wuH,↓reduceIte,xA,xB,xC,xD,xE,xF,reduceCtorEq,xH,xI,xJ,xK,xL,xM,xN,xO,h77,r1,r2,wsub1,wsub2,g1,g2,h78,c1,c2,h79,run80,t1,wbr]
 refine(lpX_code (c':=lp Tryz.f24 0) (by kernel_rfl)).trans ?_
 rw [lq24_0]
 try simp +contextual -implicitDefEqProofs (maxSteps:=9^9) only [↓wkA,↓lv24,↓fz24,↓tbr24,wuH,↓reduceIte,xA,xB,xC,xD,xE,xF,reduceCtorEq,xH,xI,xJ,xK,xL,xM,xN,xO,h77,r1,r2,wsub1,wsub2,g1,g2,h78,c1,c2,h79,run80,t1,wbr]
 unfold lpN
 conv=>lhs;arg 2;whnf
 simp +contextual -implicitDefEqProofs (maxSteps:=9^9) only [↓wkA,↓lv24,↓fz24,↓tbr24,wuH,↓reduceIte,xA,xB,xC,xD,xE,xF,reduceCtorEq,xH,xI,xJ,xK,xL,xM,xN,xO,h77,r1,r2,wsub1,wsub2,g1,g2,h78,c1,c2,h79,run80,t1,lq24_0,wbr]
 unfold lpN
 conv=>lhs;arg 2;whnf
 simp +contextual -implicitDefEqProofs (maxSteps:=9^9) only [↓wkA,↓lv24,↓fz24,↓tbr24,wuH,↓reduceIte,xA,xB,xC,xD,xE,xF,reduceCtorEq,xH,xI,xJ,xK,xL,xM,xN,xO,h77,r1,r2,wsub1,wsub2,g1,g2,h78,c1,c2,h79,run80,t1,lq24_0,wbr]
 unfold lpN
 conv=>lhs;arg 2;whnf
 simp +contextual -implicitDefEqProofs (maxSteps:=9^9) only [↓wkA,↓lv24,↓fz24,↓tbr24,wuH,↓reduceIte,xA,xB,xC,xD,xE,xF,reduceCtorEq,xH,xI,xJ,xK,xL,xM,xN,xO,h77,r1,r2,wsub1,wsub2,g1,g2,h78,c1,c2,h79,run80,t1,lq24_0,wbr]
theorem rop_rslo{s:LU}{k1 n1:Int}{b1:LI}{w1:LA}{q1 l1:Int}{s1:LU}{m1 e1:LA}{k2 n2:Int}{b2:LI}{w2:LA}{q2 l2:Int}{s2:LU}{m2 e2:LA}(h77:evW 77 [.str s] []=oR (.bool true))(r1:(s==[114,105,115,105,110,103])=false)(r2:(s==[102,97,108,108,105,110,103])=false)(g1:evW 34 [.agg [iA q1,iA l1,.str s1,.sl 1 m1,.sl 5 e1],.agg [iA k1,iA n1,bitsA b1,.sl 4 w1]] []=oR (.bool true))(g2:evW 34 [.agg [iA q2,iA l2,.str s2,.sl 1 m2,.sl 5 e2],.agg [iA k2,iA n2,bitsA b2,.sl 4 w2]] []=oR (.bool true)){kt lt:Int}(h78:evW 78 [.str s,.sl 5 [[iA q1,iA l1,.str s1,.sl 1 m1,.sl 5 e1],[iA q2,iA l2,.str s2,.sl 1 m2,.sl 5 e2]],iA n2] []=oR (.tup [tyA kt lt,.bool true]))(t1:(s==[116,111,95,118,101,99])=false)(t2:(s==[114,101,115,105,122,101])=true)(c1:decide (n2<1)=true):evW 24 [.str s,.sl 4 [[iA k1,iA n1,bitsA b1,.sl 4 w1],[iA k2,iA n2,bitsA b2,.sl 4 w2]],.sl 5 [[iA q1,iA l1,.str s1,.sl 1 m1,.sl 5 e1],[iA q2,iA l2,.str s2,.sl 1 m2,.sl 5 e2]]] []=oR (.tup [vl 0 0 (.sl 1 []),tyA 0 0,iA 19]):=by
 rw [w24 rfl]
 conv=>lhs;arg 2;whnf
 simp +contextual -implicitDefEqProofs (maxSteps:=9^9) only [↓wkA,↓lv24,↓fz24,↓tbr24,wuH,↓reduceIte,xA,xB,xC,xD,xE,xF,reduceCtorEq,xH,xI,xJ,xK,xL,xM,xN,xO,h77,r1,r2,wsub1,wsub2,g1,g2,h78,c1,t1,t2,wbr]
 refine(lpX_code (c':=lp Tryz.f24 0) (by kernel_rfl)).trans ?_
 rw [lq24_0]
 try simp +contextual -implicitDefEqProofs (maxSteps:=9^9) only [↓wkA,↓lv24,↓fz24,↓tbr24,wuH,↓reduceIte,xA,xB,xC,xD,xE,xF,reduceCtorEq,xH,xI,xJ,xK,xL,xM,xN,xO,h77,r1,r2,wsub1,wsub2,g1,g2,h78,c1,t1,t2,wbr]
 unfold lpN
 conv=>lhs;arg 2;whnf
 simp +contextual -implicitDefEqProofs (maxSteps:=9^9) only [↓wkA,↓lv24,↓fz24,↓tbr24,wuH,↓reduceIte,xA,xB,xC,xD,xE,xF,reduceCtorEq,xH,xI,xJ,xK,xL,xM,xN,xO,h77,r1,r2,wsub1,wsub2,g1,g2,h78,c1,t1,t2,lq24_0,wbr]
 unfold lpN
 conv=>lhs;arg 2;whnf
 simp +contextual -implicitDefEqProofs (maxSteps:=9^9) only [↓wkA,↓lv24,↓fz24,↓tbr24,wuH,↓reduceIte,xA,xB,xC,xD,xE,xF,reduceCtorEq,xH,xI,xJ,xK,xL,xM,xN,xO,h77,r1,r2,wsub1,wsub2,g1,g2,h78,c1,t1,t2,lq24_0,wbr]
 unfold lpN
 conv=>lhs;arg 2;whnf
 simp +contextual -implicitDefEqProofs (maxSteps:=9^9) only [↓wkA,↓lv24,↓fz24,↓tbr24,wuH,↓reduceIte,xA,xB,xC,xD,xE,xF,reduceCtorEq,xH,xI,xJ,xK,xL,xM,xN,xO,h77,r1,r2,wsub1,wsub2,g1,g2,h78,c1,t1,t2,lq24_0,wbr]
theorem rop_rshi{s:LU}{k1 n1:Int}{b1:LI}{w1:LA}{q1 l1:Int}{s1:LU}{m1 e1:LA}{k2 n2:Int}{b2:LI}{w2:LA}{q2 l2:Int}{s2:LU}{m2 e2:LA}(h77:evW 77 [.str s] []=oR (.bool true))(r1:(s==[114,105,115,105,110,103])=false)(r2:(s==[102,97,108,108,105,110,103])=false)(g1:evW 34 [.agg [iA q1,iA l1,.str s1,.sl 1 m1,.sl 5 e1],.agg [iA k1,iA n1,bitsA b1,.sl 4 w1]] []=oR (.bool true))(g2:evW 34 [.agg [iA q2,iA l2,.str s2,.sl 1 m2,.sl 5 e2],.agg [iA k2,iA n2,bitsA b2,.sl 4 w2]] []=oR (.bool true)){kt lt:Int}(h78:evW 78 [.str s,.sl 5 [[iA q1,iA l1,.str s1,.sl 1 m1,.sl 5 e1],[iA q2,iA l2,.str s2,.sl 1 m2,.sl 5 e2]],iA n2] []=oR (.tup [tyA kt lt,.bool true]))(t1:(s==[116,111,95,118,101,99])=false)(t2:(s==[114,101,115,105,122,101])=true)(c1:decide (n2<1)=false)(c2:decide (64<n2)=true):evW 24 [.str s,.sl 4 [[iA k1,iA n1,bitsA b1,.sl 4 w1],[iA k2,iA n2,bitsA b2,.sl 4 w2]],.sl 5 [[iA q1,iA l1,.str s1,.sl 1 m1,.sl 5 e1],[iA q2,iA l2,.str s2,.sl 1 m2,.sl 5 e2]]] []=oR (.tup [vl 0 0 (.sl 1 []),tyA 0 0,iA 19]):=by
 rw [w24 rfl]
 conv=>lhs;arg 2;whnf
 simp +contextual -implicitDefEqProofs (maxSteps:=9^9) only [↓wkA,↓lv24,↓fz24,↓tbr24,wuH,↓reduceIte,xA,xB,xC,xD,xE,xF,reduceCtorEq,xH,xI,xJ,xK,xL,xM,xN,xO,h77,r1,r2,wsub1,wsub2,g1,g2,h78,c1,c2,t1,t2,wbr]
 refine(lpX_code (c':=lp Tryz.f24 0) (by kernel_rfl)).trans ?_
 rw [lq24_0]
 try simp +contextual -implicitDefEqProofs (maxSteps:=9^9) only [↓wkA,↓lv24,↓fz24,↓tbr24,wuH,↓reduceIte,xA,xB,xC,xD,xE,xF,reduceCtorEq,xH,xI,xJ,xK,xL,xM,xN,xO,h77,r1,r2,wsub1,wsub2,g1,g2,h78,c1,c2,t1,t2,wbr]
 unfold lpN
 conv=>lhs;arg 2;whnf
 simp +contextual -implicitDefEqProofs (maxSteps:=9^9) only [↓wkA,↓lv24,↓fz24,↓tbr24,wuH,↓reduceIte,xA,xB,xC,xD,xE,xF,reduceCtorEq,xH,xI,xJ,xK,xL,xM,xN,xO,h77,r1,r2,wsub1,wsub2,g1,g2,h78,c1,c2,t1,t2,lq24_0,wbr]
 unfold lpN
 conv=>lhs;arg 2;whnf
 simp +contextual -implicitDefEqProofs (maxSteps:=9^9) only [↓wkA,↓lv24,↓fz24,↓tbr24,wuH,↓reduceIte,xA,xB,xC,xD,xE,xF,reduceCtorEq,xH,xI,xJ,xK,xL,xM,xN,xO,h77,r1,r2,wsub1,wsub2,g1,g2,h78,c1,c2,t1,t2,lq24_0,wbr]
 unfold lpN
 conv=>lhs;arg 2;whnf
 simp +contextual -implicitDefEqProofs (maxSteps:=9^9) only [↓wkA,↓lv24,↓fz24,↓tbr24,wuH,↓reduceIte,xA,xB,xC,xD,xE,xF,reduceCtorEq,xH,xI,xJ,xK,xL,xM,xN,xO,h77,r1,r2,wsub1,wsub2,g1,g2,h78,c1,c2,t1,t2,lq24_0,wbr]
theorem rop_rsok{s:LU}{k1 n1:Int}{b1:LI}{w1:LA}{q1 l1:Int}{s1:LU}{m1 e1:LA}{k2 n2:Int}{b2:LI}{w2:LA}{q2 l2:Int}{s2:LU}{m2 e2:LA}(h77:evW 77 [.str s] []=oR (.bool true))(r1:(s==[114,105,115,105,110,103])=false)(r2:(s==[102,97,108,108,105,110,103])=false)(g1:evW 34 [.agg [iA q1,iA l1,.str s1,.sl 1 m1,.sl 5 e1],.agg [iA k1,iA n1,bitsA b1,.sl 4 w1]] []=oR (.bool true))(g2:evW 34 [.agg [iA q2,iA l2,.str s2,.sl 1 m2,.sl 5 e2],.agg [iA k2,iA n2,bitsA b2,.sl 4 w2]] []=oR (.bool true)){kt lt:Int}(h78:evW 78 [.str s,.sl 5 [[iA q1,iA l1,.str s1,.sl 1 m1,.sl 5 e1],[iA q2,iA l2,.str s2,.sl 1 m2,.sl 5 e2]],iA n2] []=oR (.tup [tyA kt lt,.bool true]))(t1:(s==[116,111,95,118,101,99])=false)(t2:(s==[114,101,115,105,122,101])=true)(c1:decide (n2<1)=false)(c2:decide (64<n2)=false){kv nv:Int}{bs:LI}(h79:evW 79 [.str s,.sl 4 [[iA k1,iA n1,bitsA b1,.sl 4 w1],[iA k2,iA n2,bitsA b2,.sl 4 w2]]] []=oR (.tup [vl kv nv (bitsA bs),iA 0])):evW 24 [.str s,.sl 4 [[iA k1,iA n1,bitsA b1,.sl 4 w1],[iA k2,iA n2,bitsA b2,.sl 4 w2]],.sl 5 [[iA q1,iA l1,.str s1,.sl 1 m1,.sl 5 e1],[iA q2,iA l2,.str s2,.sl 1 m2,.sl 5 e2]]] []=oR (.tup [vl kv nv (bitsA bs),tyA kt lt,okE]):=by
 rw [w24 rfl]
 conv=>lhs;arg 2;whnf
 simp +contextual -implicitDefEqProofs (maxSteps:=9^9) only [↓wkA,↓lv24,↓fz24,↓tbr24,wuH,↓reduceIte,xA,xB,xC,xD,xE,xF,reduceCtorEq,xH,xI,xJ,xK,xL,xM,xN,xO,h77,r1,r2,wsub1,wsub2,g1,g2,h78,c1,c2,h79,run80,t1,t2,wbr]
 refine(lpX_code (c':=lp Tryz.f24 0) (by kernel_rfl)).trans ?_
 rw [lq24_0]
 try simp +contextual -implicitDefEqProofs (maxSteps:=9^9) only [↓wkA,↓lv24,↓fz24,↓tbr24,wuH,↓reduceIte,xA,xB,xC,xD,xE,xF,reduceCtorEq,xH,xI,xJ,xK,xL,xM,xN,xO,h77,r1,r2,wsub1,wsub2,g1,g2,h78,c1,c2,h79,run80,t1,t2,wbr]
 unfold lpN
 conv=>lhs;arg 2;whnf
 simp +contextual -implicitDefEqProofs (maxSteps:=9^9) only [↓wkA,↓lv24,↓fz24,↓tbr24,wuH,↓reduceIte,xA,xB,xC,xD,xE,xF,reduceCtorEq,xH,xI,xJ,xK,xL,xM,xN,xO,h77,r1,r2,wsub1,wsub2,g1,g2,h78,c1,c2,h79,run80,t1,t2,lq24_0,wbr]
 unfold lpN
 conv=>lhs;arg 2;whnf
 simp +contextual -implicitDefEqProofs (maxSteps:=9^9) only [↓wkA,↓lv24,↓fz24,↓tbr24,wuH,↓reduceIte,xA,xB,xC,xD,xE,xF,reduceCtorEq,xH,xI,xJ,xK,xL,xM,xN,xO,h77,r1,r2,wsub1,wsub2,g1,g2,h78,c1,c2,h79,run80,t1,t2,lq24_0,wbr]
 unfold lpN
 conv=>lhs;arg 2;whnf
 simp +contextual -implicitDefEqProofs (maxSteps:=9^9) only [↓wkA,↓lv24,↓fz24,↓tbr24,wuH,↓reduceIte,xA,xB,xC,xD,xE,xF,reduceCtorEq,xH,xI,xJ,xK,xL,xM,xN,xO,h77,r1,r2,wsub1,wsub2,g1,g2,h78,c1,c2,h79,run80,t1,t2,lq24_0,wbr]
end Go.Proofs.YtdhcgankmhpgeaaGreat.M
