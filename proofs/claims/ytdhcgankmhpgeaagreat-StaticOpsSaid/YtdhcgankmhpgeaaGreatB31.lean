import Derived.Test.YtdhcgankmhpgeaaGreatB30
set_option linter.all false
namespace Go.Proofs.YtdhcgankmhpgeaaGreat.M
open Go
open Nat renaming reduceEqDiff → xA, reduceLT → xB, reduceAdd → xC, reduceMul → xD, reduceSub → xE, reduceDiv → xF, reduceLeDiff → xN
open Int renaming reduceAdd → xH, reduceLE → xI, reduceLT → xJ, reduceToNat → xK, reduceEq → xL, reduceBEq → xM
open UInt8 renaming reduceToNat → xO
set_option maxRecDepth 100000
set_option maxHeartbeats 4000000
attribute [local congr] br_congr ob2_congr cnd_congr gdK_congr ob_congr clK_congr finK_congr reg_congr pkK_congr kTK_congr dlT_congr gck_congr iff2_congr sel_congr dPn_congr apJ_congr nmK_congr kTo_congr fzO_congr rcK_congr lvB_congr crK_congr cdB_congr
theorem run230{v:LI}(hp:isP v=true)(h0:∀ b∈v,(0:Int)≤b)(hl:v.length≤31):evW 230 [bitsA v] []=oR (.tup [iA (valN (ones v)),okE]):=by
 have h188:=run188 (isP_lt hp)
 rw [hp] at h188
 have c1:decide ((31:Int)<(v.length:Nat))=false:=by simp;omega
 have e:=orF_eq v 0 0 (by omega) (by simp) (by omega)
 simp only [Int.pow_zero,Int.one_mul,Int.zero_add] at e
 rw [← e]
 simp only [bitsA] at h188
 rw [w230 rfl]
 conv=>lhs;arg 2;whnf
 simp +contextual -implicitDefEqProofs (maxSteps:=9^9) only [↓wkA,↓lv230,↓fz230,wuH,↓reduceIte,xA,xB,xC,xD,xE,xF,reduceCtorEq,xH,xI,xJ,xK,xL,xM,xN,xO,h188,c1,bitsA,wbr]
 refine(lpX_code (c':=lp Tryz.f230 0) (by kernel_rfl)).trans ?_
 rw [lq230_0]
 try simp +contextual -implicitDefEqProofs (maxSteps:=9^9) only [↓wkA,↓lv230,↓fz230,wuH,↓reduceIte,xA,xB,xC,xD,xE,xF,reduceCtorEq,xH,xI,xJ,xK,xL,xM,xN,xO,h188,c1,wbr]
 refine(loop230 (v:=v) (by omega) (X:=fun z=>oR (.tup [iA z,okE])) ?_ v 0 0 rfl).trans ?_
 ·intro m fr nx hlk
  simp +contextual -implicitDefEqProofs (maxSteps:=9^9) only [↓wkA,↓lv230,↓fz230,wuH,↓reduceIte,xA,xB,xC,xD,xE,xF,reduceCtorEq,xH,xI,xJ,xK,xL,xM,xN,xO,hlk,wbr]
 ·rfl
theorem run247{v:LI}(hp:isP v=true)(h0:∀ b∈v,(0:Int)≤b)(hl:v.length≤31):evW 247 [bitsA v] []=oR (.tup [iA (valN (ones v)),okE]):=by
 have h97:=run97 (isP_lt hp)
 rw [isP_all hp h0] at h97
 have c1:decide ((31:Int)<(v.length:Nat))=false:=by simp;omega
 simp only [bitsA] at h97
 rw [w247 rfl]
 conv=>lhs;arg 2;whnf
 simp +contextual -implicitDefEqProofs (maxSteps:=9^9) only [↓wkA,↓lv247,↓fz247,wuH,↓reduceIte,xA,xB,xC,xD,xE,xF,reduceCtorEq,xH,xI,xJ,xK,xL,xM,xN,xO,h97,c1,bitsA,wbr]
 refine(lpX_code (c':=lp Tryz.f247 0) (by kernel_rfl)).trans ?_
 rw [lq247_0]
 try simp +contextual -implicitDefEqProofs (maxSteps:=9^9) only [↓wkA,↓lv247,↓fz247,wuH,↓reduceIte,xA,xB,xC,xD,xE,xF,reduceCtorEq,xH,xI,xJ,xK,xL,xM,xN,xO,h97,c1,wbr]
 refine(loop247 (v:=v) hl (X:=fun z=>oR (.tup [iA z,okE])) ?_ v.length 0 0 (by omega) (by simp [ones,valN])).trans ?_
 ·intro fr nx hlk
  simp +contextual -implicitDefEqProofs (maxSteps:=9^9) only [↓wkA,↓lv247,↓fz247,wuH,↓reduceIte,xA,xB,xC,xD,xE,xF,reduceCtorEq,xH,xI,xJ,xK,xL,xM,xN,xO,hlk,wbr]
 ·rfl
theorem run147toi{v:LI}(hp:isP v=true)(h0:∀ b∈v,(0:Int)≤b)(hl:v.length≤31){l:Int}:evW 147 [.str [116,111,95,105,110,116],.agg [iA 4,iA 0,bitsA v,.sl 4 []],.agg [iA 4,iA l,.str [],.sl 1 [],.sl 5 []]] []=oR (.tup [vl 3 (valN (ones v)) (.sl 1 []),okE]):=by
 have h1:=run230 hp h0 hl
 simp only [bitsA] at h1
 rw [w147 rfl]
 conv=>lhs;arg 2;whnf
 simp +contextual -implicitDefEqProofs (maxSteps:=9^9) only [↓wkA,↓lv147,↓fz147,wuH,↓reduceIte,xA,xB,xC,xD,xE,xF,reduceCtorEq,xH,xI,xJ,xK,xL,xM,xN,xO,h1,run231,bitsA,wbr]
theorem do_toi{v:LI}(hp:isP v=true)(h0:∀ b∈v,(0:Int)≤b)(hl:v.length≤31){l:Int}:evW 75 [.str [116,111,95,105,110,116],.sl 4 [[iA 4,iA 0,bitsA v,.sl 4 []]],.sl 5 [[iA 4,iA l,.str [],.sl 1 [],.sl 5 []]]] []=oR (.tup [vl 3 (valN (ones v)) (.sl 1 []),okE]):=by
 have h3:=run147toi hp h0 hl (l:=l)
 rw [w75 rfl]
 conv=>lhs;arg 2;whnf
 simp +contextual -implicitDefEqProofs (maxSteps:=9^9) only [↓wkA,↓lv75,↓fz75,↓tbr75,wuH,↓reduceIte,xA,xB,xC,xD,xE,xF,reduceCtorEq,xH,xI,xJ,xK,xL,xM,xN,xO,h3,wbr]
theorem run157toi{v:LI}(hp:isP v=true)(h0:∀ b∈v,(0:Int)≤b)(hl:v.length≤31):evW 157 [.str [116,111,95,105,110,116],.agg [iA 4,iA 0,bitsA v,.sl 4 []]] []=oR (.tup [vl 3 (valN (ones v)) (.sl 1 []),okE]):=by
 have h1:=run247 hp h0 hl
 have h163:=run163t (n:=valN (ones v)) (e:=0) rfl
 simp only [bitsA] at h1
 rw [w157 rfl]
 conv=>lhs;arg 2;whnf
 simp +contextual -implicitDefEqProofs (maxSteps:=9^9) only [↓wkA,↓lv157,↓fz157,wuH,↓reduceIte,xA,xB,xC,xD,xE,xF,reduceCtorEq,xH,xI,xJ,xK,xL,xM,xN,xO,h1,h163,bitsA,wbr]
theorem val_toi{v:LI}(hp:isP v=true)(h0:∀ b∈v,(0:Int)≤b)(hl:v.length≤31):evW 79 [.str [116,111,95,105,110,116],.sl 4 [[iA 4,iA 0,bitsA v,.sl 4 []]]] []=oR (.tup [vl 3 (valN (ones v)) (.sl 1 []),okE]):=by
 have h3:=run157toi hp h0 hl
 rw [w79 rfl]
 conv=>lhs;arg 2;whnf
 simp +contextual -implicitDefEqProofs (maxSteps:=9^9) only [↓wkA,↓lv79,↓fz79,↓tbr79,wuH,↓reduceIte,xA,xB,xC,xD,xE,xF,reduceCtorEq,xH,xI,xJ,xK,xL,xM,xN,xO,h3,wbr]
theorem run333{n:Nat}(h1:1≤n)(h2:n≤1000):evW 333 [.nils,iA n] []=some (.ret (.row 0 0 0),[.arr 162 1 []]):=by
 refine ev_le 1 333 _ _ _ ?_
 have e:kn 333 (canVs (ashOf 333) [.nils,iA n]) []=some (.ret (.row 0 0 0),[.arr 162 1 []]):=by
  have e0:canVs (ashOf 333) [.nils,iA n]=[.nils,iA n]:=by kernel_rfl
  rw [e0]
  refine kn_lib rfl ?_
  unfold libK
  simp only [show decide ((1:Int)≤(n:Nat))=true by simp;omega,show decide (((n:Nat):Int)≤1000)=true by simp;omega]
  rfl
 have e2:rshOf 333=[]:=by kernel_rfl
 unfold ev
 rw [e,e2]
 rfl
theorem run303{u v:LI}(h1:1≤u.length)(h2:1≤v.length)(hl:u.length+v.length≤64):evW 303 [.row 0 0 2] [.arr 30 1 [[bitsA u],[bitsA v]]]=some (.ret (.row 1 0 (u.length+v.length)),[.arr 30 1 [[bitsA u],[bitsA v]],.arr 162 1 ((u++v).map fun b=>[.int .u8 b])]):=by
 have w1:IntKind.i64.wrap ((0:Int)+u.length)=u.length:=by rw [Int.zero_add];exact wrap_i64 (by omega) (by omega)
 have w2:IntKind.i64.wrap ((u.length:Int)+v.length)=((u.length+v.length:Nat):Int):=by rw [wrap_i64 (by omega) (by omega)];omega
 have w3:IntKind.i64.wrap (u.length:Int)=u.length:=wrap_i64 (by omega) (by omega)
 have l1:decide ((u.length:Int)<0)=false:=by simp
 have l2:decide (((u.length+v.length:Nat):Int)<0)=false:=by simp;omega
 have h333:=run333 (n:=u.length+v.length) (by omega) (by omega)
 have ms1:decide (u.length≤most)=true:=by unfold most;simp;omega
 have ms2:decide (u.length+v.length≤most)=true:=by unfold most;simp;omega
 rw [List.map_append]
 simp only [bitsA]
 rw [w303 rfl]
 conv=>lhs;arg 2;whnf
 simp +contextual -implicitDefEqProofs (maxSteps:=9^9) only [↓wkA,↓lv303,↓fz303,wuH,↓reduceIte,xA,xB,xC,xD,xE,xF,reduceCtorEq,xH,xI,xJ,xK,xL,xM,xN,xO,keysE_app,w1,w2,w3,l1,l2,h333,ms1,ms2,bitsA,List.set_cons_zero,List.set_cons_succ,↓tyr323,↓tyz323,↓ld323,↓sto323,↓len323,↓ia323,↓sc323,↓bs323,↓mk323,↓ap323,wbr]
 refine(lpX_code (c':=lp Tryz.f303 0) (by kernel_rfl)).trans ?_
 rw [lq303_0]
 try simp +contextual -implicitDefEqProofs (maxSteps:=9^9) only [↓wkA,↓lv303,↓fz303,wuH,↓reduceIte,xA,xB,xC,xD,xE,xF,reduceCtorEq,xH,xI,xJ,xK,xL,xM,xN,xO,keysE_app,w1,w2,w3,l1,l2,h333,ms1,ms2,bitsA,List.set_cons_zero,List.set_cons_succ,↓tyr323,↓tyz323,↓ld323,↓sto323,↓len323,↓ia323,↓sc323,↓bs323,↓mk323,↓ap323,wbr]
 unfold lpN
 conv=>lhs;arg 2;whnf
 simp +contextual -implicitDefEqProofs (maxSteps:=9^9) only [↓wkA,↓lv303,↓fz303,wuH,↓reduceIte,xA,xB,xC,xD,xE,xF,reduceCtorEq,xH,xI,xJ,xK,xL,xM,xN,xO,keysE_app,w1,w2,w3,l1,l2,h333,ms1,ms2,bitsA,List.set_cons_zero,List.set_cons_succ,↓tyr323,↓tyz323,↓ld323,↓sto323,↓len323,↓ia323,↓sc323,↓bs323,↓mk323,↓ap323,lq303_0,wbr]
 unfold lpN
 conv=>lhs;arg 2;whnf
 simp +contextual -implicitDefEqProofs (maxSteps:=9^9) only [↓wkA,↓lv303,↓fz303,wuH,↓reduceIte,xA,xB,xC,xD,xE,xF,reduceCtorEq,xH,xI,xJ,xK,xL,xM,xN,xO,keysE_app,w1,w2,w3,l1,l2,h333,ms1,ms2,bitsA,List.set_cons_zero,List.set_cons_succ,↓tyr323,↓tyz323,↓ld323,↓sto323,↓len323,↓ia323,↓sc323,↓bs323,↓mk323,↓ap323,lq303_0,wbr]
 unfold lpN
 conv=>lhs;arg 2;whnf
 simp +contextual -implicitDefEqProofs (maxSteps:=9^9) only [↓wkA,↓lv303,↓fz303,wuH,↓reduceIte,xA,xB,xC,xD,xE,xF,reduceCtorEq,xH,xI,xJ,xK,xL,xM,xN,xO,keysE_app,w1,w2,w3,l1,l2,h333,ms1,ms2,bitsA,List.set_cons_zero,List.set_cons_succ,↓tyr323,↓tyz323,↓ld323,↓sto323,↓len323,↓ia323,↓sc323,↓bs323,↓mk323,↓ap323,lq303_0,wbr]
 refine(lpX_code (c':=lp Tryz.f303 1) (by kernel_rfl)).trans ?_
 rw [lq303_1]
 try simp +contextual -implicitDefEqProofs (maxSteps:=9^9) only [↓wkA,↓lv303,↓fz303,wuH,↓reduceIte,xA,xB,xC,xD,xE,xF,reduceCtorEq,xH,xI,xJ,xK,xL,xM,xN,xO,keysE_app,w1,w2,w3,l1,l2,h333,ms1,ms2,bitsA,List.set_cons_zero,List.set_cons_succ,↓tyr323,↓tyz323,↓ld323,↓sto323,↓len323,↓ia323,↓sc323,↓bs323,↓mk323,↓ap323,wbr]
 unfold lpN
 conv=>lhs;arg 2;whnf
 simp +contextual -implicitDefEqProofs (maxSteps:=9^9) only [↓wkA,↓lv303,↓fz303,wuH,↓reduceIte,xA,xB,xC,xD,xE,xF,reduceCtorEq,xH,xI,xJ,xK,xL,xM,xN,xO,keysE_app,w1,w2,w3,l1,l2,h333,ms1,ms2,bitsA,List.set_cons_zero,List.set_cons_succ,↓tyr323,↓tyz323,↓ld323,↓sto323,↓len323,↓ia323,↓sc323,↓bs323,↓mk323,↓ap323,lq303_1,wbr]
 unfold lpN
 conv=>lhs;arg 2;whnf
 simp +contextual -implicitDefEqProofs (maxSteps:=9^9) only [↓wkA,↓lv303,↓fz303,wuH,↓reduceIte,xA,xB,xC,xD,xE,xF,reduceCtorEq,xH,xI,xJ,xK,xL,xM,xN,xO,keysE_app,w1,w2,w3,l1,l2,h333,ms1,ms2,bitsA,List.set_cons_zero,List.set_cons_succ,↓tyr323,↓tyz323,↓ld323,↓sto323,↓len323,↓ia323,↓sc323,↓bs323,↓mk323,↓ap323,lq303_1,wbr]
 unfold lpN
 conv=>lhs;arg 2;whnf
 simp +contextual -implicitDefEqProofs (maxSteps:=9^9) only [↓wkA,↓lv303,↓fz303,wuH,↓reduceIte,xA,xB,xC,xD,xE,xF,reduceCtorEq,xH,xI,xJ,xK,xL,xM,xN,xO,keysE_app,w1,w2,w3,l1,l2,h333,ms1,ms2,bitsA,List.set_cons_zero,List.set_cons_succ,↓tyr323,↓tyz323,↓ld323,↓sto323,↓len323,↓ia323,↓sc323,↓bs323,↓mk323,↓ap323,lq303_1,wbr]
theorem run240{u v:LI}(hu:isP u=true)(hv:isP v=true)(u0:∀ b∈u,(0:Int)≤b)(v0:∀ b∈v,(0:Int)≤b)(hl:u.length+v.length≤64):evW 240 [bitsA u,bitsA v] []=oR (.tup [bitsA (v++u),okE]):=by
 have l1:=isP_len hu
 have l2:=isP_len hv
 have w1:IntKind.i64.wrap ((u.length:Int)+v.length)=((u.length+v.length:Nat):Int):=by rw [wrap_i64 (by omega) (by omega)];omega
 have c1:decide ((64:Int)<((u.length+v.length:Nat):Int))=false:=by simp;omega
 have h1:=run188 (isP_lt hu)
 have h2:=run188 (isP_lt hv)
 rw [hu] at h1
 rw [hv] at h2
 have h3:=run303 (u:=v) (v:=u) l2.1 l1.1 (by omega)
 have hd:decide (v.length+u.length≤(v++u).length)=true:=by simp
 have htk:List.take (v.length+u.length) ((v++u).map fun b=>[AV.int .u8 b])=(v++u).map fun b=>[AV.int .u8 b]:=List.take_of_length_le (by simp)
 simp only [bitsA] at h1 h2 h3 ⊢
 rw [w240 rfl]
 conv=>lhs;arg 2;whnf
 simp +contextual -implicitDefEqProofs (maxSteps:=9^9) only [↓wkA,↓lv240,↓fz240,wuH,↓reduceIte,xA,xB,xC,xD,xE,xF,reduceCtorEq,xH,xI,xJ,xK,xL,xM,xN,xO,h1,h2,h3,w1,c1,hd,htk,bitsA,List.set_cons_zero,List.set_cons_succ,↓tyr323,↓tyz323,↓ld323,↓sto323,↓len323,↓ia323,↓sc323,↓bs323,↓mk323,↓ap323,wbr]
theorem run169{u v:LI}(hu:isP u=true)(hv:isP v=true)(u0:∀ b∈u,(0:Int)≤b)(v0:∀ b∈v,(0:Int)≤b)(hl:u.length+v.length≤64):evW 169 [bitsA u,bitsA v] []=oR (.tup [bitsA (v++u),okE]):=by
 have l1:=isP_len hu
 have l2:=isP_len hv
 have w1:IntKind.i64.wrap ((u.length:Int)+v.length)=((u.length+v.length:Nat):Int):=by rw [wrap_i64 (by omega) (by omega)];omega
 have c1:decide ((64:Int)<((u.length+v.length:Nat):Int))=false:=by simp;omega
 have h1:=run97 (isP_lt hu)
 have h2:=run97 (isP_lt hv)
 rw [isP_all hu u0] at h1
 rw [isP_all hv v0] at h2
 have ms1:decide (v.length≤most)=true:=by unfold most;simp;omega
 have ms2:decide (v.length+u.length≤most)=true:=by unfold most;simp;omega
 have htk:List.take (v.length+u.length) ((v++u).map fun b=>[AV.int .u8 b])=(v++u).map fun b=>[AV.int .u8 b]:=List.take_of_length_le (by simp)
 have hd:decide (v.length+u.length≤(v++u).length)=true:=by simp
 have hmm:(v.map fun b=>[AV.int .u8 b])++(u.map fun b=>[AV.int .u8 b])=(v++u).map fun b=>[AV.int .u8 b]:=List.map_append.symm
 simp only [bitsA] at h1 h2 ⊢
 rw [w169 rfl]
 conv=>lhs;arg 2;whnf
 simp +contextual -implicitDefEqProofs (maxSteps:=9^9) only [↓wkA,↓lv169,↓fz169,wuH,↓reduceIte,xA,xB,xC,xD,xE,xF,reduceCtorEq,xH,xI,xJ,xK,xL,xM,xN,xO,h1,h2,w1,c1,ms1,ms2,htk,hd,hmm,bitsA,wbr]
theorem run151cat{u v:LI}(hu:isP u=true)(hv:isP v=true)(u0:∀ b∈u,(0:Int)≤b)(v0:∀ b∈v,(0:Int)≤b)(hl:u.length+v.length≤64){k k2 l:Int}:evW 151 [.str [38],.agg [iA k,iA 0,bitsA u,.sl 4 []],.agg [iA k2,iA 0,bitsA v,.sl 4 []],.agg [iA k,iA l,.str [],.sl 1 [],.sl 5 []]] []=oR (.tup [vl 4 0 (bitsA (v++u)),okE]):=by
 have h240:=run240 hu hv u0 v0 hl
 have h229:=@run229 4 1 (v++u)
 simp only [bitsA] at h240 h229 ⊢
 rw [w151 rfl]
 conv=>lhs;arg 2;whnf
 simp +contextual -implicitDefEqProofs (maxSteps:=9^9) only [↓wkA,↓lv151,↓fz151,↓tbr151,wuH,↓reduceIte,xA,xB,xC,xD,xE,xF,reduceCtorEq,xH,xI,xJ,xK,xL,xM,xN,xO,h240,h229,run145,bitsA,wbr]
theorem do_cat{u v:LI}(hu:isP u=true)(hv:isP v=true)(u0:∀ b∈u,(0:Int)≤b)(v0:∀ b∈v,(0:Int)≤b)(hl:u.length+v.length≤64){k k2 l l2:Int}(hk:k=1∨k=4):evW 75 [.str [38],.sl 4 [[iA k,iA 0,bitsA u,.sl 4 []],[iA k2,iA 0,bitsA v,.sl 4 []]],.sl 5 [[iA k,iA l,.str [],.sl 1 [],.sl 5 []],[iA k2,iA l2,.str [],.sl 1 [],.sl 5 []]]] []=oR (.tup [vl 4 0 (bitsA (v++u)),okE]):=by
 have h:=run151cat hu hv u0 v0 hl (k:=k) (k2:=k2) (l:=l)
 rcases hk with rfl|rfl
 all_goals
  rw [w75 rfl]
  conv=>lhs;arg 2;whnf
  simp +contextual -implicitDefEqProofs (maxSteps:=9^9) only [↓wkA,↓lv75,↓fz75,↓tbr75,wuH,↓reduceIte,xA,xB,xC,xD,xE,xF,reduceCtorEq,xH,xI,xJ,xK,xL,xM,xN,xO,h,wbr]
theorem val_cat{u v:LI}(hu:isP u=true)(hv:isP v=true)(u0:∀ b∈u,(0:Int)≤b)(v0:∀ b∈v,(0:Int)≤b)(hl:u.length+v.length≤64){k k2:Int}:evW 79 [.str [38],.sl 4 [[iA k,iA 0,bitsA u,.sl 4 []],[iA k2,iA 0,bitsA v,.sl 4 []]]] []=oR (.tup [vl 4 0 (bitsA (v++u)),okE]):=by
 have h1:=run169 hu hv u0 v0 hl
 have h2:=run165 (v:=v++u) (by simp;omega)
 simp only [bitsA] at h1 h2 ⊢
 rw [w79 rfl]
 conv=>lhs;arg 2;whnf
 simp +contextual -implicitDefEqProofs (maxSteps:=9^9) only [↓wkA,↓lv79,↓fz79,↓tbr79,wuH,↓reduceIte,xA,xB,xC,xD,xE,xF,reduceCtorEq,xH,xI,xJ,xK,xL,xM,xN,xO,h1,h2,bitsA,wbr]
end Go.Proofs.YtdhcgankmhpgeaaGreat.M
namespace Go.Proofs.YtdhcgankmhpgeaaGreat.M
open Go
set_option maxRecDepth 100000
set_option maxHeartbeats 4000000
attribute [local congr] br_congr ob2_congr cnd_congr gdK_congr ob_congr clK_congr finK_congr reg_congr pkK_congr kTK_congr dlT_congr gck_congr iff2_congr sel_congr dPn_congr apJ_congr nmK_congr kTo_congr fzO_congr rcK_congr lvB_congr crK_congr cdB_congr
theorem sameT_eq:∀{t u:TT},sameT t u=true→t=u
 | .mk k l s L [],.mk k2 l2 s2 L2 [],h=>by
   rw [sameT] at h
   simp only [Bool.and_eq_true,beq_iff_eq,and_true] at h
   obtain⟨rfl,rfl,rfl,rfl⟩:=h
   rfl
 | .mk k l s L [e],.mk k2 l2 s2 L2 [e2],h=>by
   rw [sameT] at h
   simp only [Bool.and_eq_true,beq_iff_eq] at h
   obtain⟨rfl,rfl,rfl,rfl,h⟩:=h
   rw [sameT_eq h]
 | .mk k l s L [],.mk k2 l2 s2 L2 (e::r),h=>by simp [sameT] at h
 | .mk k l s L (e::r),.mk k2 l2 s2 L2 [],h=>by cases r<;>simp [sameT] at h
 | .mk k l s L [e],.mk k2 l2 s2 L2 (a::b::r),h=>by simp [sameT] at h
 | .mk k l s L (a::b::r),.mk k2 l2 s2 L2 (e::q),h=>by simp [sameT] at h
theorem valid_non6{k l:Int}{s:LU}{L:LB}{es:List TT}(h:validT (.mk k l s L es)=true)(hk:(k==6)=false):es=[]∧valid0 k l s L 0=true:=by
 match es,h with
 | [],h=>rw [validT,hk] at h;exact⟨rfl,h⟩
 | [e],h=>rw [validT,hk] at h;simp only [Bool.false_eq_true,if_false] at h;rw [valid0_no] at h;cases h
 | a::b::r,h=>rw [validT,hk] at h;simp only [Bool.false_eq_true,if_false] at h;rw [valid0_no] at h;cases h
theorem fo1{t:TT}{v:VT}(ht:validT t=true)(h:hasT t v=true)(hk:kindT t=1):∃ b,t = .mk 1 0 [] [] []∧v = .mk 1 0 b []∧isP b=true∧b.length=1:=by
 obtain⟨k,l,s,L,es⟩:=t
 obtain⟨kv,n,b,ls⟩:=v
 simp only [kindT] at hk
 subst hk
 obtain⟨rfl,h0⟩:=valid_non6 ht rfl
 rw [hasT_nil] at h
 simp [valid0,plainB] at h0
 simp [has0,bareB] at h
 obtain⟨rfl,rfl,rfl⟩:=h0
 obtain⟨rfl,⟨rfl,rfl⟩,h2,h3⟩:=h
 exact⟨b,rfl,rfl,h2,by omega⟩
theorem fo2{t:TT}{v:VT}(ht:validT t=true)(h:hasT t v=true)(hk:kindT t=2):∃ n,t = .mk 2 0 [] [] []∧v = .mk 2 n [] []∧(n=0∨n=1):=by
 obtain⟨k,l,s,L,es⟩:=t
 obtain⟨kv,n,b,ls⟩:=v
 simp only [kindT] at hk
 subst hk
 obtain⟨rfl,h0⟩:=valid_non6 ht rfl
 rw [hasT_nil] at h
 simp [valid0,plainB] at h0
 simp [has0,bareB] at h
 obtain⟨rfl,rfl,rfl⟩:=h0
 obtain⟨rfl,⟨rfl,rfl⟩,h3⟩:=h
 exact⟨n,rfl,rfl,h3⟩
theorem fo3{t:TT}{v:VT}(ht:validT t=true)(h:hasT t v=true)(hk:kindT t=3):∃ n,t = .mk 3 0 [] [] []∧v = .mk 3 n [] []∧isI n=true:=by
 obtain⟨k,l,s,L,es⟩:=t
 obtain⟨kv,n,b,ls⟩:=v
 simp only [kindT] at hk
 subst hk
 obtain⟨rfl,h0⟩:=valid_non6 ht rfl
 rw [hasT_nil] at h
 simp [valid0,plainB] at h0
 simp [has0,bareB] at h
 obtain⟨rfl,rfl,rfl⟩:=h0
 obtain⟨rfl,⟨rfl,rfl⟩,h3⟩:=h
 exact⟨n,rfl,rfl,h3⟩
theorem fo4{t:TT}{v:VT}(ht:validT t=true)(h:hasT t v=true)(hk:kindT t=4):∃ b,t = .mk 4 (b.length:Int) [] [] []∧v = .mk 4 0 b []∧isP b=true:=by
 obtain⟨k,l,s,L,es⟩:=t
 obtain⟨kv,n,b,ls⟩:=v
 simp only [kindT] at hk
 subst hk
 obtain⟨rfl,h0⟩:=valid_non6 ht rfl
 rw [hasT_nil] at h
 simp [valid0,plainB] at h0
 simp [has0,bareB] at h
 obtain⟨⟨rfl,rfl⟩,_⟩:=h0
 obtain⟨rfl,⟨rfl,rfl⟩,h3,rfl⟩:=h
 exact⟨b,rfl,rfl,h3⟩
theorem fo6{t:TT}{v:VT}(ht:validT t=true)(h:hasT t v=true)(hk:kindT t=6):∃ l s L e ls,t = .mk 6 l s L [e]∧v = .mk 6 0 [] ls∧(ls.length:Int)=l∧l≤64:=by
 obtain⟨k,l,s,L,es⟩:=t
 obtain⟨kv,n,b,ls⟩:=v
 simp only [kindT] at hk
 subst hk
 match es,ht,h with
 | [],ht,_=>simp [validT] at ht
 | a::c::r,ht,_=>simp [validT] at ht
 | [e],ht,h =>
   rw [hasT] at h
   simp [bareB] at h
   simp [validT] at ht
   obtain⟨rfl,⟨rfl,rfl⟩,h3,_⟩:=h
   exact⟨l,s,L,e,ls,rfl,rfl,h3,by omega⟩
theorem vSm_pos{k n:Int}{b:LI}{ls:List VT}(h:vSm (.mk k n b ls)):∀ x∈b,(0:Int)≤x:=by
 rw [vSm] at h
 exact h.2.2.1
end Go.Proofs.YtdhcgankmhpgeaaGreat.M
