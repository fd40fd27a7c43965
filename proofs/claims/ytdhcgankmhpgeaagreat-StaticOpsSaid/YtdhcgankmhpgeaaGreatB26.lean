import Derived.Test.YtdhcgankmhpgeaaGreatB25
set_option linter.all false
namespace Go.Proofs.YtdhcgankmhpgeaaGreat.M
open Go
open Nat renaming reduceEqDiff → xA, reduceLT → xB, reduceAdd → xC, reduceMul → xD, reduceSub → xE, reduceDiv → xF, reduceLeDiff → xN
open Int renaming reduceAdd → xH, reduceLE → xI, reduceLT → xJ, reduceToNat → xK, reduceEq → xL, reduceBEq → xM
open UInt8 renaming reduceToNat → xO
set_option maxRecDepth 100000
set_option maxHeartbeats 4000000
attribute [local congr] br_congr ob2_congr cnd_congr gdK_congr ob_congr clK_congr finK_congr reg_congr pkK_congr kTK_congr dlT_congr gck_congr iff2_congr sel_congr dPn_congr apJ_congr nmK_congr kTo_congr fzO_congr rcK_congr lvB_congr crK_congr cdB_congr
theorem run147not1{v:LI}(hp:isP v=true)(h0:∀ b∈v,(0:Int)≤b){l:Int}:evW 147 [.str [110,111,116],.agg [iA 1,iA 0,bitsA v,.sl 4 []],.agg [iA 1,iA l,.str [],.sl 1 [],.sl 5 []]] []=oR (.tup [vl 1 0 (bitsA (tabL v.length (gN v))),okE]):=by
 have h1:=run228 hp
 have h2:=run229 (k:=1) (l:=l) (xs:=tabL v.length (gN v))
 rw [w147 rfl]
 conv=>lhs;arg 2;whnf
 simp +contextual -implicitDefEqProofs (maxSteps:=9^9) only [↓wkA,↓lv147,↓fz147,wuH,↓reduceIte,xA,xB,xC,xD,xE,xF,reduceCtorEq,xH,xI,xJ,xK,xL,xM,xN,xO,h1,h2,wbr]
theorem do_not1{v:LI}(hp:isP v=true)(h0:∀ b∈v,(0:Int)≤b){l:Int}:evW 75 [.str [110,111,116],.sl 4 [[iA 1,iA 0,bitsA v,.sl 4 []]],.sl 5 [[iA 1,iA l,.str [],.sl 1 [],.sl 5 []]]] []=oR (.tup [vl 1 0 (bitsA (tabL v.length (gN v))),okE]):=by
 have h3:=run147not1 hp h0 (l:=l)
 rw [w75 rfl]
 conv=>lhs;arg 2;whnf
 simp +contextual -implicitDefEqProofs (maxSteps:=9^9) only [↓wkA,↓lv75,↓fz75,↓tbr75,wuH,↓reduceIte,xA,xB,xC,xD,xE,xF,reduceCtorEq,xH,xI,xJ,xK,xL,xM,xN,xO,h3,wbr]
theorem run157not1{v:LI}(hp:isP v=true)(h0:∀ b∈v,(0:Int)≤b):evW 157 [.str [110,111,116],.agg [iA 1,iA 0,bitsA v,.sl 4 []]] []=oR (.tup [vl 1 0 (bitsA (tabL v.length (gN v))),okE]):=by
 have h97:=run97 (isP_lt hp)
 rw [isP_all hp h0] at h97
 have hlen:=isP_len hp
 have h246:=run246 (by omega) (bit4_of hp h0) h97 (by omega)
 rw [inv_eq] at h246
 rw [w157 rfl]
 conv=>lhs;arg 2;whnf
 simp +contextual -implicitDefEqProofs (maxSteps:=9^9) only [↓wkA,↓lv157,↓fz157,wuH,↓reduceIte,xA,xB,xC,xD,xE,xF,reduceCtorEq,xH,xI,xJ,xK,xL,xM,xN,xO,h246,wbr]
theorem val_not1{v:LI}(hp:isP v=true)(h0:∀ b∈v,(0:Int)≤b):evW 79 [.str [110,111,116],.sl 4 [[iA 1,iA 0,bitsA v,.sl 4 []]]] []=oR (.tup [vl 1 0 (bitsA (tabL v.length (gN v))),okE]):=by
 have h3:=run157not1 hp h0
 rw [w79 rfl]
 conv=>lhs;arg 2;whnf
 simp +contextual -implicitDefEqProofs (maxSteps:=9^9) only [↓wkA,↓lv79,↓fz79,↓tbr79,wuH,↓reduceIte,xA,xB,xC,xD,xE,xF,reduceCtorEq,xH,xI,xJ,xK,xL,xM,xN,xO,h3,wbr]
theorem run147isx1t{v:LI}(hp:isP v=true)(h0:∀ b∈v,(0:Int)≤b){l:Int}(q:knownR v=true):evW 147 [.str [105,115,95,120],.agg [iA 1,iA 0,bitsA v,.sl 4 []],.agg [iA 1,iA l,.str [],.sl 1 [],.sl 5 []]] []=oR (.tup [vl 2 0 (.sl 1 []),okE]):=by
 have h1:=run232 hp
 rw [known_eq hp,q] at h1
 rw [w147 rfl]
 conv=>lhs;arg 2;whnf
 simp +contextual -implicitDefEqProofs (maxSteps:=9^9) only [↓wkA,↓lv147,↓fz147,wuH,↓reduceIte,xA,xB,xC,xD,xE,xF,reduceCtorEq,xH,xI,xJ,xK,xL,xM,xN,xO,h1,run150,wbr]
 all_goals first|rfl|skip
theorem do_isx1t{v:LI}(hp:isP v=true)(h0:∀ b∈v,(0:Int)≤b){l:Int}(q:knownR v=true):evW 75 [.str [105,115,95,120],.sl 4 [[iA 1,iA 0,bitsA v,.sl 4 []]],.sl 5 [[iA 1,iA l,.str [],.sl 1 [],.sl 5 []]]] []=oR (.tup [vl 2 0 (.sl 1 []),okE]):=by
 have h3:=run147isx1t hp h0 (l:=l) q
 rw [w75 rfl]
 conv=>lhs;arg 2;whnf
 simp +contextual -implicitDefEqProofs (maxSteps:=9^9) only [↓wkA,↓lv75,↓fz75,↓tbr75,wuH,↓reduceIte,xA,xB,xC,xD,xE,xF,reduceCtorEq,xH,xI,xJ,xK,xL,xM,xN,xO,h3,wbr]
theorem run157isx1t{v:LI}(hp:isP v=true)(h0:∀ b∈v,(0:Int)≤b)(q:knownR v=true):evW 157 [.str [105,115,95,120],.agg [iA 1,iA 0,bitsA v,.sl 4 []]] []=oR (.tup [vl 2 0 (.sl 1 []),okE]):=by
 have h1:=run248 hp h0
 rw [q] at h1
 rw [w157 rfl]
 conv=>lhs;arg 2;whnf
 simp +contextual -implicitDefEqProofs (maxSteps:=9^9) only [↓wkA,↓lv157,↓fz157,wuH,↓reduceIte,xA,xB,xC,xD,xE,xF,reduceCtorEq,xH,xI,xJ,xK,xL,xM,xN,xO,h1,run158,wbr]
 all_goals first|rfl|skip
theorem val_isx1t{v:LI}(hp:isP v=true)(h0:∀ b∈v,(0:Int)≤b)(q:knownR v=true):evW 79 [.str [105,115,95,120],.sl 4 [[iA 1,iA 0,bitsA v,.sl 4 []]]] []=oR (.tup [vl 2 0 (.sl 1 []),okE]):=by
 have h3:=run157isx1t hp h0 q
 rw [w79 rfl]
 conv=>lhs;arg 2;whnf
 simp +contextual -implicitDefEqProofs (maxSteps:=9^9) only [↓wkA,↓lv79,↓fz79,↓tbr79,wuH,↓reduceIte,xA,xB,xC,xD,xE,xF,reduceCtorEq,xH,xI,xJ,xK,xL,xM,xN,xO,h3,wbr]
theorem run147isx1f{v:LI}(hp:isP v=true)(h0:∀ b∈v,(0:Int)≤b){l:Int}(q:knownR v=false):evW 147 [.str [105,115,95,120],.agg [iA 1,iA 0,bitsA v,.sl 4 []],.agg [iA 1,iA l,.str [],.sl 1 [],.sl 5 []]] []=oR (.tup [vl 2 1 (.sl 1 []),okE]):=by
 have h1:=run232 hp
 rw [known_eq hp,q] at h1
 rw [w147 rfl]
 conv=>lhs;arg 2;whnf
 simp +contextual -implicitDefEqProofs (maxSteps:=9^9) only [↓wkA,↓lv147,↓fz147,wuH,↓reduceIte,xA,xB,xC,xD,xE,xF,reduceCtorEq,xH,xI,xJ,xK,xL,xM,xN,xO,h1,run150,wbr]
 all_goals first|rfl|skip
theorem do_isx1f{v:LI}(hp:isP v=true)(h0:∀ b∈v,(0:Int)≤b){l:Int}(q:knownR v=false):evW 75 [.str [105,115,95,120],.sl 4 [[iA 1,iA 0,bitsA v,.sl 4 []]],.sl 5 [[iA 1,iA l,.str [],.sl 1 [],.sl 5 []]]] []=oR (.tup [vl 2 1 (.sl 1 []),okE]):=by
 have h3:=run147isx1f hp h0 (l:=l) q
 rw [w75 rfl]
 conv=>lhs;arg 2;whnf
 simp +contextual -implicitDefEqProofs (maxSteps:=9^9) only [↓wkA,↓lv75,↓fz75,↓tbr75,wuH,↓reduceIte,xA,xB,xC,xD,xE,xF,reduceCtorEq,xH,xI,xJ,xK,xL,xM,xN,xO,h3,wbr]
theorem run157isx1f{v:LI}(hp:isP v=true)(h0:∀ b∈v,(0:Int)≤b)(q:knownR v=false):evW 157 [.str [105,115,95,120],.agg [iA 1,iA 0,bitsA v,.sl 4 []]] []=oR (.tup [vl 2 1 (.sl 1 []),okE]):=by
 have h1:=run248 hp h0
 rw [q] at h1
 rw [w157 rfl]
 conv=>lhs;arg 2;whnf
 simp +contextual -implicitDefEqProofs (maxSteps:=9^9) only [↓wkA,↓lv157,↓fz157,wuH,↓reduceIte,xA,xB,xC,xD,xE,xF,reduceCtorEq,xH,xI,xJ,xK,xL,xM,xN,xO,h1,run158,wbr]
 all_goals first|rfl|skip
theorem val_isx1f{v:LI}(hp:isP v=true)(h0:∀ b∈v,(0:Int)≤b)(q:knownR v=false):evW 79 [.str [105,115,95,120],.sl 4 [[iA 1,iA 0,bitsA v,.sl 4 []]]] []=oR (.tup [vl 2 1 (.sl 1 []),okE]):=by
 have h3:=run157isx1f hp h0 q
 rw [w79 rfl]
 conv=>lhs;arg 2;whnf
 simp +contextual -implicitDefEqProofs (maxSteps:=9^9) only [↓wkA,↓lv79,↓fz79,↓tbr79,wuH,↓reduceIte,xA,xB,xC,xD,xE,xF,reduceCtorEq,xH,xI,xJ,xK,xL,xM,xN,xO,h3,wbr]
theorem run147not4{v:LI}(hp:isP v=true)(h0:∀ b∈v,(0:Int)≤b){l:Int}:evW 147 [.str [110,111,116],.agg [iA 4,iA 0,bitsA v,.sl 4 []],.agg [iA 4,iA l,.str [],.sl 1 [],.sl 5 []]] []=oR (.tup [vl 4 0 (bitsA (tabL v.length (gN v))),okE]):=by
 have h1:=run228 hp
 have h2:=run229 (k:=4) (l:=l) (xs:=tabL v.length (gN v))
 rw [w147 rfl]
 conv=>lhs;arg 2;whnf
 simp +contextual -implicitDefEqProofs (maxSteps:=9^9) only [↓wkA,↓lv147,↓fz147,wuH,↓reduceIte,xA,xB,xC,xD,xE,xF,reduceCtorEq,xH,xI,xJ,xK,xL,xM,xN,xO,h1,h2,wbr]
theorem do_not4{v:LI}(hp:isP v=true)(h0:∀ b∈v,(0:Int)≤b){l:Int}:evW 75 [.str [110,111,116],.sl 4 [[iA 4,iA 0,bitsA v,.sl 4 []]],.sl 5 [[iA 4,iA l,.str [],.sl 1 [],.sl 5 []]]] []=oR (.tup [vl 4 0 (bitsA (tabL v.length (gN v))),okE]):=by
 have h3:=run147not4 hp h0 (l:=l)
 rw [w75 rfl]
 conv=>lhs;arg 2;whnf
 simp +contextual -implicitDefEqProofs (maxSteps:=9^9) only [↓wkA,↓lv75,↓fz75,↓tbr75,wuH,↓reduceIte,xA,xB,xC,xD,xE,xF,reduceCtorEq,xH,xI,xJ,xK,xL,xM,xN,xO,h3,wbr]
theorem run157not4{v:LI}(hp:isP v=true)(h0:∀ b∈v,(0:Int)≤b):evW 157 [.str [110,111,116],.agg [iA 4,iA 0,bitsA v,.sl 4 []]] []=oR (.tup [vl 4 0 (bitsA (tabL v.length (gN v))),okE]):=by
 have h97:=run97 (isP_lt hp)
 rw [isP_all hp h0] at h97
 have hlen:=isP_len hp
 have h246:=run246 (by omega) (bit4_of hp h0) h97 (by omega)
 rw [inv_eq] at h246
 rw [w157 rfl]
 conv=>lhs;arg 2;whnf
 simp +contextual -implicitDefEqProofs (maxSteps:=9^9) only [↓wkA,↓lv157,↓fz157,wuH,↓reduceIte,xA,xB,xC,xD,xE,xF,reduceCtorEq,xH,xI,xJ,xK,xL,xM,xN,xO,h246,wbr]
theorem val_not4{v:LI}(hp:isP v=true)(h0:∀ b∈v,(0:Int)≤b):evW 79 [.str [110,111,116],.sl 4 [[iA 4,iA 0,bitsA v,.sl 4 []]]] []=oR (.tup [vl 4 0 (bitsA (tabL v.length (gN v))),okE]):=by
 have h3:=run157not4 hp h0
 rw [w79 rfl]
 conv=>lhs;arg 2;whnf
 simp +contextual -implicitDefEqProofs (maxSteps:=9^9) only [↓wkA,↓lv79,↓fz79,↓tbr79,wuH,↓reduceIte,xA,xB,xC,xD,xE,xF,reduceCtorEq,xH,xI,xJ,xK,xL,xM,xN,xO,h3,wbr]
theorem run147isx4t{v:LI}(hp:isP v=true)(h0:∀ b∈v,(0:Int)≤b){l:Int}(q:knownR v=true):evW 147 [.str [105,115,95,120],.agg [iA 4,iA 0,bitsA v,.sl 4 []],.agg [iA 4,iA l,.str [],.sl 1 [],.sl 5 []]] []=oR (.tup [vl 2 0 (.sl 1 []),okE]):=by
 have h1:=run232 hp
 rw [known_eq hp,q] at h1
 rw [w147 rfl]
 conv=>lhs;arg 2;whnf
 simp +contextual -implicitDefEqProofs (maxSteps:=9^9) only [↓wkA,↓lv147,↓fz147,wuH,↓reduceIte,xA,xB,xC,xD,xE,xF,reduceCtorEq,xH,xI,xJ,xK,xL,xM,xN,xO,h1,run150,wbr]
 all_goals first|rfl|skip
theorem do_isx4t{v:LI}(hp:isP v=true)(h0:∀ b∈v,(0:Int)≤b){l:Int}(q:knownR v=true):evW 75 [.str [105,115,95,120],.sl 4 [[iA 4,iA 0,bitsA v,.sl 4 []]],.sl 5 [[iA 4,iA l,.str [],.sl 1 [],.sl 5 []]]] []=oR (.tup [vl 2 0 (.sl 1 []),okE]):=by
 have h3:=run147isx4t hp h0 (l:=l) q
 rw [w75 rfl]
 conv=>lhs;arg 2;whnf
 simp +contextual -implicitDefEqProofs (maxSteps:=9^9) only [↓wkA,↓lv75,↓fz75,↓tbr75,wuH,↓reduceIte,xA,xB,xC,xD,xE,xF,reduceCtorEq,xH,xI,xJ,xK,xL,xM,xN,xO,h3,wbr]
theorem run157isx4t{v:LI}(hp:isP v=true)(h0:∀ b∈v,(0:Int)≤b)(q:knownR v=true):evW 157 [.str [105,115,95,120],.agg [iA 4,iA 0,bitsA v,.sl 4 []]] []=oR (.tup [vl 2 0 (.sl 1 []),okE]):=by
 have h1:=run248 hp h0
 rw [q] at h1
 rw [w157 rfl]
 conv=>lhs;arg 2;whnf
 simp +contextual -implicitDefEqProofs (maxSteps:=9^9) only [↓wkA,↓lv157,↓fz157,wuH,↓reduceIte,xA,xB,xC,xD,xE,xF,reduceCtorEq,xH,xI,xJ,xK,xL,xM,xN,xO,h1,run158,wbr]
 all_goals first|rfl|skip
theorem val_isx4t{v:LI}(hp:isP v=true)(h0:∀ b∈v,(0:Int)≤b)(q:knownR v=true):evW 79 [.str [105,115,95,120],.sl 4 [[iA 4,iA 0,bitsA v,.sl 4 []]]] []=oR (.tup [vl 2 0 (.sl 1 []),okE]):=by
 have h3:=run157isx4t hp h0 q
 rw [w79 rfl]
 conv=>lhs;arg 2;whnf
 simp +contextual -implicitDefEqProofs (maxSteps:=9^9) only [↓wkA,↓lv79,↓fz79,↓tbr79,wuH,↓reduceIte,xA,xB,xC,xD,xE,xF,reduceCtorEq,xH,xI,xJ,xK,xL,xM,xN,xO,h3,wbr]
theorem run147isx4f{v:LI}(hp:isP v=true)(h0:∀ b∈v,(0:Int)≤b){l:Int}(q:knownR v=false):evW 147 [.str [105,115,95,120],.agg [iA 4,iA 0,bitsA v,.sl 4 []],.agg [iA 4,iA l,.str [],.sl 1 [],.sl 5 []]] []=oR (.tup [vl 2 1 (.sl 1 []),okE]):=by
 have h1:=run232 hp
 rw [known_eq hp,q] at h1
 rw [w147 rfl]
 conv=>lhs;arg 2;whnf
 simp +contextual -implicitDefEqProofs (maxSteps:=9^9) only [↓wkA,↓lv147,↓fz147,wuH,↓reduceIte,xA,xB,xC,xD,xE,xF,reduceCtorEq,xH,xI,xJ,xK,xL,xM,xN,xO,h1,run150,wbr]
 all_goals first|rfl|skip
theorem do_isx4f{v:LI}(hp:isP v=true)(h0:∀ b∈v,(0:Int)≤b){l:Int}(q:knownR v=false):evW 75 [.str [105,115,95,120],.sl 4 [[iA 4,iA 0,bitsA v,.sl 4 []]],.sl 5 [[iA 4,iA l,.str [],.sl 1 [],.sl 5 []]]] []=oR (.tup [vl 2 1 (.sl 1 []),okE]):=by
 have h3:=run147isx4f hp h0 (l:=l) q
 rw [w75 rfl]
 conv=>lhs;arg 2;whnf
 simp +contextual -implicitDefEqProofs (maxSteps:=9^9) only [↓wkA,↓lv75,↓fz75,↓tbr75,wuH,↓reduceIte,xA,xB,xC,xD,xE,xF,reduceCtorEq,xH,xI,xJ,xK,xL,xM,xN,xO,h3,wbr]
theorem run157isx4f{v:LI}(hp:isP v=true)(h0:∀ b∈v,(0:Int)≤b)(q:knownR v=false):evW 157 [.str [105,115,95,120],.agg [iA 4,iA 0,bitsA v,.sl 4 []]] []=oR (.tup [vl 2 1 (.sl 1 []),okE]):=by
 have h1:=run248 hp h0
 rw [q] at h1
 rw [w157 rfl]
 conv=>lhs;arg 2;whnf
 simp +contextual -implicitDefEqProofs (maxSteps:=9^9) only [↓wkA,↓lv157,↓fz157,wuH,↓reduceIte,xA,xB,xC,xD,xE,xF,reduceCtorEq,xH,xI,xJ,xK,xL,xM,xN,xO,h1,run158,wbr]
 all_goals first|rfl|skip
theorem val_isx4f{v:LI}(hp:isP v=true)(h0:∀ b∈v,(0:Int)≤b)(q:knownR v=false):evW 79 [.str [105,115,95,120],.sl 4 [[iA 4,iA 0,bitsA v,.sl 4 []]]] []=oR (.tup [vl 2 1 (.sl 1 []),okE]):=by
 have h3:=run157isx4f hp h0 q
 rw [w79 rfl]
 conv=>lhs;arg 2;whnf
 simp +contextual -implicitDefEqProofs (maxSteps:=9^9) only [↓wkA,↓lv79,↓fz79,↓tbr79,wuH,↓reduceIte,xA,xB,xC,xD,xE,xF,reduceCtorEq,xH,xI,xJ,xK,xL,xM,xN,xO,h3,wbr]
theorem do_notb0:evW 75 [.str [110,111,116],.sl 4 [[iA 2,iA 0,.sl 1 [],.sl 4 []]],.sl 5 [[iA 2,iA 0,.str [],.sl 1 [],.sl 5 []]]] []=oR (.tup [vl 2 1 (.sl 1 []),okE]):=ev_le 20 75 _ _ _ (by kernel_rfl)
theorem val_notb0:evW 79 [.str [110,111,116],.sl 4 [[iA 2,iA 0,.sl 1 [],.sl 4 []]]] []=oR (.tup [vl 2 1 (.sl 1 []),okE]):=ev_le 20 79 _ _ _ (by kernel_rfl)
theorem do_notb1:evW 75 [.str [110,111,116],.sl 4 [[iA 2,iA 1,.sl 1 [],.sl 4 []]],.sl 5 [[iA 2,iA 0,.str [],.sl 1 [],.sl 5 []]]] []=oR (.tup [vl 2 0 (.sl 1 []),okE]):=ev_le 20 75 _ _ _ (by kernel_rfl)
theorem val_notb1:evW 79 [.str [110,111,116],.sl 4 [[iA 2,iA 1,.sl 1 [],.sl 4 []]]] []=oR (.tup [vl 2 0 (.sl 1 []),okE]):=ev_le 20 79 _ _ _ (by kernel_rfl)
theorem run147negt{a:Int}(h:(intE subI false 0 a==0)=true):evW 147 [.str [45],.agg [iA 3,iA a,.sl 1 [],.sl 4 []],.agg [iA 3,iA 0,.str [],.sl 1 [],.sl 5 []]] []=oR (.tup [vl 3 (intN subI false 0 a) (.sl 1 []),okE]):=by
 have h3:=run148sub (a:=0) (b:=a)
 rw [h,br_true] at h3
 rw [w147 rfl]
 conv=>lhs;arg 2;whnf
 simp +contextual -implicitDefEqProofs (maxSteps:=9^9) only [↓wkA,↓lv147,↓fz147,wuH,↓reduceIte,xA,xB,xC,xD,xE,xF,reduceCtorEq,xH,xI,xJ,xK,xL,xM,xN,xO,h3,wbr]
theorem do_negt{a:Int}(h:(intE subI false 0 a==0)=true):evW 75 [.str [45],.sl 4 [[iA 3,iA a,.sl 1 [],.sl 4 []]],.sl 5 [[iA 3,iA 0,.str [],.sl 1 [],.sl 5 []]]] []=oR (.tup [vl 3 (intN subI false 0 a) (.sl 1 []),okE]):=by
 have h3:=run147negt h
 rw [w75 rfl]
 conv=>lhs;arg 2;whnf
 simp +contextual -implicitDefEqProofs (maxSteps:=9^9) only [↓wkA,↓lv75,↓fz75,↓tbr75,wuH,↓reduceIte,xA,xB,xC,xD,xE,xF,reduceCtorEq,xH,xI,xJ,xK,xL,xM,xN,xO,h3,wbr]
theorem run157negt{a:Int}(h:(intE subI false 0 a==0)=true)(ha:isI a=true):evW 157 [.str [45],.agg [iA 3,iA a,.sl 1 [],.sl 4 []]] []=oR (.tup [vl 3 (intN subI false 0 a) (.sl 1 []),okE]):=by
 have h4:=run164sub (a:=0) (b:=a) (by decide) ha
 have h5:=run163t (n:=intN subI false 0 a) h
 rw [w157 rfl]
 conv=>lhs;arg 2;whnf
 simp +contextual -implicitDefEqProofs (maxSteps:=9^9) only [↓wkA,↓lv157,↓fz157,wuH,↓reduceIte,xA,xB,xC,xD,xE,xF,reduceCtorEq,xH,xI,xJ,xK,xL,xM,xN,xO,h4,h5,wbr]
theorem val_negt{a:Int}(h:(intE subI false 0 a==0)=true)(ha:isI a=true):evW 79 [.str [45],.sl 4 [[iA 3,iA a,.sl 1 [],.sl 4 []]]] []=oR (.tup [vl 3 (intN subI false 0 a) (.sl 1 []),okE]):=by
 have h3:=run157negt h ha
 rw [w79 rfl]
 conv=>lhs;arg 2;whnf
 simp +contextual -implicitDefEqProofs (maxSteps:=9^9) only [↓wkA,↓lv79,↓fz79,↓tbr79,wuH,↓reduceIte,xA,xB,xC,xD,xE,xF,reduceCtorEq,xH,xI,xJ,xK,xL,xM,xN,xO,h3,wbr]
theorem run147negf{a:Int}(h:(intE subI false 0 a==0)=false):evW 147 [.str [45],.agg [iA 3,iA a,.sl 1 [],.sl 4 []],.agg [iA 3,iA 0,.str [],.sl 1 [],.sl 5 []]] []=oR (.tup [vl 0 0 (.sl 1 []),iA (intE subI false 0 a)]):=by
 have h3:=run148sub (a:=0) (b:=a)
 rw [h,br_false] at h3
 rw [w147 rfl]
 conv=>lhs;arg 2;whnf
 simp +contextual -implicitDefEqProofs (maxSteps:=9^9) only [↓wkA,↓lv147,↓fz147,wuH,↓reduceIte,xA,xB,xC,xD,xE,xF,reduceCtorEq,xH,xI,xJ,xK,xL,xM,xN,xO,h3,wbr]
theorem do_negf{a:Int}(h:(intE subI false 0 a==0)=false):evW 75 [.str [45],.sl 4 [[iA 3,iA a,.sl 1 [],.sl 4 []]],.sl 5 [[iA 3,iA 0,.str [],.sl 1 [],.sl 5 []]]] []=oR (.tup [vl 0 0 (.sl 1 []),iA (intE subI false 0 a)]):=by
 have h3:=run147negf h
 rw [w75 rfl]
 conv=>lhs;arg 2;whnf
 simp +contextual -implicitDefEqProofs (maxSteps:=9^9) only [↓wkA,↓lv75,↓fz75,↓tbr75,wuH,↓reduceIte,xA,xB,xC,xD,xE,xF,reduceCtorEq,xH,xI,xJ,xK,xL,xM,xN,xO,h3,wbr]
theorem run157negf{a:Int}(h:(intE subI false 0 a==0)=false)(ha:isI a=true):evW 157 [.str [45],.agg [iA 3,iA a,.sl 1 [],.sl 4 []]] []=oR (.tup [vl 0 0 (.sl 1 []),iA (intE subI false 0 a)]):=by
 have h4:=run164sub (a:=0) (b:=a) (by decide) ha
 have h5:=run163f (n:=intN subI false 0 a) h
 rw [w157 rfl]
 conv=>lhs;arg 2;whnf
 simp +contextual -implicitDefEqProofs (maxSteps:=9^9) only [↓wkA,↓lv157,↓fz157,wuH,↓reduceIte,xA,xB,xC,xD,xE,xF,reduceCtorEq,xH,xI,xJ,xK,xL,xM,xN,xO,h4,h5,wbr]
theorem val_negf{a:Int}(h:(intE subI false 0 a==0)=false)(ha:isI a=true):evW 79 [.str [45],.sl 4 [[iA 3,iA a,.sl 1 [],.sl 4 []]]] []=oR (.tup [vl 0 0 (.sl 1 []),iA (intE subI false 0 a)]):=by
 have h3:=run157negf h ha
 rw [w79 rfl]
 conv=>lhs;arg 2;whnf
 simp +contextual -implicitDefEqProofs (maxSteps:=9^9) only [↓wkA,↓lv79,↓fz79,↓tbr79,wuH,↓reduceIte,xA,xB,xC,xD,xE,xF,reduceCtorEq,xH,xI,xJ,xK,xL,xM,xN,xO,h3,wbr]
theorem run147len4{l:Int}{s:LU}{m e:LA}{n:Int}{bs ls:LA}:evW 147 [.str [108,101,110,103,116,104],.agg [iA 4,iA n,.sl 1 bs,.sl 4 ls],.agg [iA 4,iA l,.str s,.sl 1 m,.sl 5 e]] []=oR (.tup [vl 3 l (.sl 1 []),okE]):=by
 rw [w147 rfl]
 conv=>lhs;arg 2;whnf
 simp +contextual -implicitDefEqProofs (maxSteps:=9^9) only [↓wkA,↓lv147,↓fz147,wuH,↓reduceIte,xA,xB,xC,xD,xE,xF,reduceCtorEq,xH,xI,xJ,xK,xL,xM,xN,xO,run231,wbr]
theorem do_len4{l:Int}{s:LU}{m e:LA}{n:Int}{bs ls:LA}:evW 75 [.str [108,101,110,103,116,104],.sl 4 [[iA 4,iA n,.sl 1 bs,.sl 4 ls]],.sl 5 [[iA 4,iA l,.str s,.sl 1 m,.sl 5 e]]] []=oR (.tup [vl 3 l (.sl 1 []),okE]):=by
 have h3:=run147len4 (l:=l) (s:=s) (m:=m) (e:=e) (n:=n) (bs:=bs) (ls:=ls)
 rw [w75 rfl]
 conv=>lhs;arg 2;whnf
 simp +contextual -implicitDefEqProofs (maxSteps:=9^9) only [↓wkA,↓lv75,↓fz75,↓tbr75,wuH,↓reduceIte,xA,xB,xC,xD,xE,xF,reduceCtorEq,xH,xI,xJ,xK,xL,xM,xN,xO,h3,wbr]
theorem run157len4{l:Int}{n:Int}{bs ls:LA}(hw:IntKind.i64.wrap (((bs.length:Nat):Int)+((ls.length:Nat):Int))=l):evW 157 [.str [108,101,110,103,116,104],.agg [iA 4,iA n,.sl 1 bs,.sl 4 ls]] []=oR (.tup [vl 3 l (.sl 1 []),okE]):=by
 have h163:=run163t (n:=l) (e:=0) rfl
 rw [w157 rfl]
 conv=>lhs;arg 2;whnf
 simp +contextual -implicitDefEqProofs (maxSteps:=9^9) only [↓wkA,↓lv157,↓fz157,wuH,↓reduceIte,xA,xB,xC,xD,xE,xF,reduceCtorEq,xH,xI,xJ,xK,xL,xM,xN,xO,h163,hw,wbr]
theorem val_len4{l:Int}{n:Int}{bs ls:LA}(hw:IntKind.i64.wrap (((bs.length:Nat):Int)+((ls.length:Nat):Int))=l):evW 79 [.str [108,101,110,103,116,104],.sl 4 [[iA 4,iA n,.sl 1 bs,.sl 4 ls]]] []=oR (.tup [vl 3 l (.sl 1 []),okE]):=by
 have h3:=run157len4 (n:=n) hw
 rw [w79 rfl]
 conv=>lhs;arg 2;whnf
 simp +contextual -implicitDefEqProofs (maxSteps:=9^9) only [↓wkA,↓lv79,↓fz79,↓tbr79,wuH,↓reduceIte,xA,xB,xC,xD,xE,xF,reduceCtorEq,xH,xI,xJ,xK,xL,xM,xN,xO,h3,wbr]
theorem run147len6{l:Int}{s:LU}{m e:LA}{n:Int}{bs ls:LA}:evW 147 [.str [108,101,110,103,116,104],.agg [iA 6,iA n,.sl 1 bs,.sl 4 ls],.agg [iA 6,iA l,.str s,.sl 1 m,.sl 5 e]] []=oR (.tup [vl 3 l (.sl 1 []),okE]):=by
 rw [w147 rfl]
 conv=>lhs;arg 2;whnf
 simp +contextual -implicitDefEqProofs (maxSteps:=9^9) only [↓wkA,↓lv147,↓fz147,wuH,↓reduceIte,xA,xB,xC,xD,xE,xF,reduceCtorEq,xH,xI,xJ,xK,xL,xM,xN,xO,run231,wbr]
theorem do_len6{l:Int}{s:LU}{m e:LA}{n:Int}{bs ls:LA}:evW 75 [.str [108,101,110,103,116,104],.sl 4 [[iA 6,iA n,.sl 1 bs,.sl 4 ls]],.sl 5 [[iA 6,iA l,.str s,.sl 1 m,.sl 5 e]]] []=oR (.tup [vl 3 l (.sl 1 []),okE]):=by
 have h3:=run147len6 (l:=l) (s:=s) (m:=m) (e:=e) (n:=n) (bs:=bs) (ls:=ls)
 rw [w75 rfl]
 conv=>lhs;arg 2;whnf
 simp +contextual -implicitDefEqProofs (maxSteps:=9^9) only [↓wkA,↓lv75,↓fz75,↓tbr75,wuH,↓reduceIte,xA,xB,xC,xD,xE,xF,reduceCtorEq,xH,xI,xJ,xK,xL,xM,xN,xO,h3,wbr]
theorem run157len6{l:Int}{n:Int}{bs ls:LA}(hw:IntKind.i64.wrap (((bs.length:Nat):Int)+((ls.length:Nat):Int))=l):evW 157 [.str [108,101,110,103,116,104],.agg [iA 6,iA n,.sl 1 bs,.sl 4 ls]] []=oR (.tup [vl 3 l (.sl 1 []),okE]):=by
 have h163:=run163t (n:=l) (e:=0) rfl
 rw [w157 rfl]
 conv=>lhs;arg 2;whnf
 simp +contextual -implicitDefEqProofs (maxSteps:=9^9) only [↓wkA,↓lv157,↓fz157,wuH,↓reduceIte,xA,xB,xC,xD,xE,xF,reduceCtorEq,xH,xI,xJ,xK,xL,xM,xN,xO,h163,hw,wbr]
theorem val_len6{l:Int}{n:Int}{bs ls:LA}(hw:IntKind.i64.wrap (((bs.length:Nat):Int)+((ls.length:Nat):Int))=l):evW 79 [.str [108,101,110,103,116,104],.sl 4 [[iA 6,iA n,.sl 1 bs,.sl 4 ls]]] []=oR (.tup [vl 3 l (.sl 1 []),okE]):=by
 have h3:=run157len6 (n:=n) hw
 rw [w79 rfl]
 conv=>lhs;arg 2;whnf
 simp +contextual -implicitDefEqProofs (maxSteps:=9^9) only [↓wkA,↓lv79,↓fz79,↓tbr79,wuH,↓reduceIte,xA,xB,xC,xD,xE,xF,reduceCtorEq,xH,xI,xJ,xK,xL,xM,xN,xO,h3,wbr]
theorem run151rs{v:LI}(hp:isP v=true)(h0:∀ b∈v,(0:Int)≤b){n:Nat}(h1:1≤n)(h2:n≤64){l:Int}:evW 151 [.str [114,101,115,105,122,101],.agg [iA 4,iA 0,bitsA v,.sl 4 []],.agg [iA 3,iA n,.sl 1 [],.sl 4 []],.agg [iA 4,iA l,.str [],.sl 1 [],.sl 5 []]] []=oR (.tup [vl 4 0 (bitsA (v.take n++List.replicate (n-v.length) 0)),okE]):=by
 have a1:=run243 hp h1 h2
 have a2:=run229 (k:=4) (l:=l) (xs:=v.take n++List.replicate (n-v.length) 0)
 rw [w151 rfl]
 conv=>lhs;arg 2;whnf
 simp +contextual -implicitDefEqProofs (maxSteps:=9^9) only [↓wkA,↓lv151,↓fz151,↓tbr151,wuH,↓reduceIte,xA,xB,xC,xD,xE,xF,reduceCtorEq,xH,xI,xJ,xK,xL,xM,xN,xO,a1,a2,wbr]
theorem run151re{v:LI}(hp:isP v=true)(h0:∀ b∈v,(0:Int)≤b){n:Int}(hn:(decide (1≤n)&&decide (n≤64))=false){l:Int}:evW 151 [.str [114,101,115,105,122,101],.agg [iA 4,iA 0,bitsA v,.sl 4 []],.agg [iA 3,iA n,.sl 1 [],.sl 4 []],.agg [iA 4,iA l,.str [],.sl 1 [],.sl 5 []]] []=oR (.tup [vl 0 0 (.sl 1 []),iA 19]):=by
 have a1:=run243e hp hn
 have a2:=run229e (k:=4) (l:=l) (xs:=[]) (e:=19) rfl
 simp only [bitsA,List.map_nil] at a2
 rw [w151 rfl]
 conv=>lhs;arg 2;whnf
 simp +contextual -implicitDefEqProofs (maxSteps:=9^9) only [↓wkA,↓lv151,↓fz151,↓tbr151,wuH,↓reduceIte,xA,xB,xC,xD,xE,xF,reduceCtorEq,xH,xI,xJ,xK,xL,xM,xN,xO,a1,a2,wbr]
theorem do_resize{v:LI}(hp:isP v=true)(h0:∀ b∈v,(0:Int)≤b){n:Nat}(h1:1≤n)(h2:n≤64){l:Int}:evW 75 [.str [114,101,115,105,122,101],.sl 4 [[iA 4,iA 0,bitsA v,.sl 4 []],[iA 3,iA n,.sl 1 [],.sl 4 []]],.sl 5 [[iA 4,iA l,.str [],.sl 1 [],.sl 5 []],[iA 3,iA 0,.str [],.sl 1 [],.sl 5 []]]] []=oR (.tup [vl 4 0 (bitsA (v.take n++List.replicate (n-v.length) 0)),okE]):=by
 have a1:=run151rs hp h0 h1 h2 (l:=l)
 rw [w75 rfl]
 conv=>lhs;arg 2;whnf
 simp +contextual -implicitDefEqProofs (maxSteps:=9^9) only [↓wkA,↓lv75,↓fz75,↓tbr75,wuH,↓reduceIte,xA,xB,xC,xD,xE,xF,reduceCtorEq,xH,xI,xJ,xK,xL,xM,xN,xO,a1,wbr]
theorem do_resizee{v:LI}(hp:isP v=true)(h0:∀ b∈v,(0:Int)≤b){n:Int}(hn:(decide (1≤n)&&decide (n≤64))=false){l:Int}:evW 75 [.str [114,101,115,105,122,101],.sl 4 [[iA 4,iA 0,bitsA v,.sl 4 []],[iA 3,iA n,.sl 1 [],.sl 4 []]],.sl 5 [[iA 4,iA l,.str [],.sl 1 [],.sl 5 []],[iA 3,iA 0,.str [],.sl 1 [],.sl 5 []]]] []=oR (.tup [vl 0 0 (.sl 1 []),iA 19]):=by
 have a1:=run151re hp h0 hn (l:=l)
 rw [w75 rfl]
 conv=>lhs;arg 2;whnf
 simp +contextual -implicitDefEqProofs (maxSteps:=9^9) only [↓wkA,↓lv75,↓fz75,↓tbr75,wuH,↓reduceIte,xA,xB,xC,xD,xE,xF,reduceCtorEq,xH,xI,xJ,xK,xL,xM,xN,xO,a1,wbr]
theorem val_resize{v:LI}(hp:isP v=true)(h0:∀ b∈v,(0:Int)≤b){n:Nat}(h1:1≤n)(h2:n≤64):evW 79 [.str [114,101,115,105,122,101],.sl 4 [[iA 4,iA 0,bitsA v,.sl 4 []],[iA 3,iA n,.sl 1 [],.sl 4 []]]] []=oR (.tup [vl 4 0 (bitsA (v.take n++List.replicate (n-v.length) 0)),okE]):=by
 have a1:=run173 hp h0 h1 h2
 rw [← resize_eq] at a1
 have a2:=run165 (v:=v.take n++List.replicate (n-v.length) 0) (by simp;omega)
 rw [w79 rfl]
 conv=>lhs;arg 2;whnf
 simp +contextual -implicitDefEqProofs (maxSteps:=9^9) only [↓wkA,↓lv79,↓fz79,↓tbr79,wuH,↓reduceIte,xA,xB,xC,xD,xE,xF,reduceCtorEq,xH,xI,xJ,xK,xL,xM,xN,xO,a1,a2,wbr]
theorem run148tv{a:Int}{n:Nat}(h1:1≤n)(h2:n≤64):evW 148 [.str [116,111,95,118,101,99],iA a,iA n] []=oR (.tup [vl 4 0 (bitsA (bitsR n a)),okE]):=by
 have a1:=run233 (k:=a) h1 h2
 rw [bits_eq h2] at a1
 have a2:=run229 (k:=4) (l:=1) (xs:=bitsR n a)
 rw [w148 rfl]
 conv=>lhs;arg 2;whnf
 simp +contextual -implicitDefEqProofs (maxSteps:=9^9) only [↓wkA,↓lv148,↓fz148,wuH,↓reduceIte,xA,xB,xC,xD,xE,xF,reduceCtorEq,xH,xI,xJ,xK,xL,xM,xN,xO,a1,a2,run145,wbr]
theorem run148te{a:Int}{n:Int}(hn:(decide (1≤n)&&decide (n≤64))=false):evW 148 [.str [116,111,95,118,101,99],iA a,iA n] []=oR (.tup [vl 0 0 (.sl 1 []),iA 19]):=by
 have a1:=run233e (k:=a) hn
 have a2:=run229e (k:=4) (l:=1) (xs:=[]) (e:=19) rfl
 simp only [bitsA,List.map_nil] at a2
 rw [w148 rfl]
 conv=>lhs;arg 2;whnf
 simp +contextual -implicitDefEqProofs (maxSteps:=9^9) only [↓wkA,↓lv148,↓fz148,wuH,↓reduceIte,xA,xB,xC,xD,xE,xF,reduceCtorEq,xH,xI,xJ,xK,xL,xM,xN,xO,a1,a2,run145,wbr]
theorem do_tovec{a:Int}{n:Nat}(h1:1≤n)(h2:n≤64):evW 75 [.str [116,111,95,118,101,99],.sl 4 [[iA 3,iA a,.sl 1 [],.sl 4 []],[iA 3,iA n,.sl 1 [],.sl 4 []]],.sl 5 [[iA 3,iA 0,.str [],.sl 1 [],.sl 5 []],[iA 3,iA 0,.str [],.sl 1 [],.sl 5 []]]] []=oR (.tup [vl 4 0 (bitsA (bitsR n a)),okE]):=by
 have a1:=run148tv (a:=a) h1 h2
 rw [w75 rfl]
 conv=>lhs;arg 2;whnf
 simp +contextual -implicitDefEqProofs (maxSteps:=9^9) only [↓wkA,↓lv75,↓fz75,↓tbr75,wuH,↓reduceIte,xA,xB,xC,xD,xE,xF,reduceCtorEq,xH,xI,xJ,xK,xL,xM,xN,xO,a1,wbr]
theorem do_tovece{a:Int}{n:Int}(hn:(decide (1≤n)&&decide (n≤64))=false):evW 75 [.str [116,111,95,118,101,99],.sl 4 [[iA 3,iA a,.sl 1 [],.sl 4 []],[iA 3,iA n,.sl 1 [],.sl 4 []]],.sl 5 [[iA 3,iA 0,.str [],.sl 1 [],.sl 5 []],[iA 3,iA 0,.str [],.sl 1 [],.sl 5 []]]] []=oR (.tup [vl 0 0 (.sl 1 []),iA 19]):=by
 have a1:=run148te (a:=a) hn
 rw [w75 rfl]
 conv=>lhs;arg 2;whnf
 simp +contextual -implicitDefEqProofs (maxSteps:=9^9) only [↓wkA,↓lv75,↓fz75,↓tbr75,wuH,↓reduceIte,xA,xB,xC,xD,xE,xF,reduceCtorEq,xH,xI,xJ,xK,xL,xM,xN,xO,a1,wbr]
theorem bitsR_len:∀(n:Nat)(k:Int),(bitsR n k).length=n
 | 0,_=>rfl
 | n+1,k=>by rw [bitsR_succ,List.length_cons,bitsR_len n]
theorem val_tovec{a:Int}(ha:isI a=true){n:Nat}(h1:1≤n)(h2:n≤64):evW 79 [.str [116,111,95,118,101,99],.sl 4 [[iA 3,iA a,.sl 1 [],.sl 4 []],[iA 3,iA n,.sl 1 [],.sl 4 []]]] []=oR (.tup [vl 4 0 (bitsA (bitsR n a)),okE]):=by
 have a1:=run172 (k:=a) (by unfold isI at ha;simp at ha;omega) h1 h2
 have a2:=run165 (v:=bitsR n a) (by rw [bitsR_len];exact h2)
 rw [w79 rfl]
 conv=>lhs;arg 2;whnf
 simp +contextual -implicitDefEqProofs (maxSteps:=9^9) only [↓wkA,↓lv79,↓fz79,↓tbr79,wuH,↓reduceIte,xA,xB,xC,xD,xE,xF,reduceCtorEq,xH,xI,xJ,xK,xL,xM,xN,xO,a1,a2,wbr]
end Go.Proofs.YtdhcgankmhpgeaaGreat.M
