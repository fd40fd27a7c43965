import Derived.Test.YtdhcgankmhpgeaaGreatB18
set_option linter.all false
namespace Go.Proofs.YtdhcgankmhpgeaaGreat.M
open Go
open Nat renaming reduceEqDiff → xA, reduceLT → xB, reduceAdd → xC, reduceMul → xD, reduceSub → xE, reduceDiv → xF, reduceLeDiff → xN
open Int renaming reduceAdd → xH, reduceLE → xI, reduceLT → xJ, reduceToNat → xK, reduceEq → xL, reduceBEq → xM
open UInt8 renaming reduceToNat → xO
set_option maxRecDepth 100000
set_option maxHeartbeats 4000000
attribute [local congr] br_congr ob2_congr cnd_congr gdK_congr ob_congr clK_congr finK_congr reg_congr pkK_congr kTK_congr dlT_congr gck_congr iff2_congr sel_congr dPn_congr apJ_congr nmK_congr kTo_congr fzO_congr rcK_congr lvB_congr crK_congr cdB_congr
theorem run40g{k l k1 n1 k2 n2:Int}{s:LU}{n e v1 v2:LA}{b1 b2:LI}{c:Bool}(h1:evW 32 [tv k l s n e,.agg [iA k1,iA n1,bitsA b1,.sl 4 v1]] []=oR (.bool true))(h2:evW 32 [tv k l s n e,.agg [iA k2,iA n2,bitsA b2,.sl 4 v2]] []=oR (.bool true))(h3:evW 105 [.agg [iA k1,iA n1,bitsA b1,.sl 4 v1],.agg [iA k2,iA n2,bitsA b2,.sl 4 v2]] []=oR (.bool c)):evW 40 [tv k l s n e,.agg [iA k1,iA n1,bitsA b1,.sl 4 v1],.agg [iA k2,iA n2,bitsA b2,.sl 4 v2]] []=oR (.tup [.bool c,okE]):=by
 rw [w40 rfl]
 conv=>lhs;arg 2;whnf
 simp +contextual -implicitDefEqProofs (maxSteps:=9^9) only [↓wkA,↓lv40,↓fz40,wuH,↓reduceIte,xA,xB,xC,xD,xE,xF,reduceCtorEq,xH,xI,xJ,xK,xL,xM,xN,xO,h1,h2,h3,wbr]
theorem bare_l{a b:Bool}{n:Int}{x y:Nat}(h:bareB a b false n x y=true):y=0:=by
 unfold bareB at h
 simp at h
 exact h.2.2
theorem has0_l{k l:Int}{n:Nat}{nv:Int}{bv:LI}{m:Nat}(h:has0 k l n nv bv m=true):m=0:=by
 unfold has0 at h
 repeat' split at h
 all_goals
  rw [Bool.and_eq_true] at h
  exact bare_l h.1
theorem hasT_more{k l kv nv:Int}{s:LU}{L:LB}{a b:TT}{r:List TT}{bv:LI}{ls:List VT}:hasT (.mk k l s L (a::b::r)) (.mk kv nv bv ls)=((kv==k)&&has0 k l L.length nv bv ls.length):=by
 rw [hasT]
 intro e h
 cases h
theorem allF_has{t:TT}(ih:∀ v w,hasT t v=true→hasT t w=true→eqN v w=eqV v w):∀(l m:List VT),(l.all fun v=>hasT t v)=true→(m.all fun v=>hasT t v)=true→allF eqN l m=allF eqV l m
 | [],_,_,_=>rfl
 | x::r,[],_,_=>rfl
 | x::r,y::s,h,k=>by
   rw [List.all_cons,Bool.and_eq_true] at h k
   rw [allF_cons,allF_cons,ih x y h.1 k.1,allF_has ih r s h.2 k.2]
theorem eqN_flat{k n k2 n2:Int}{bs bs2:LI}{ls ls2:List VT}(hk:k=k2)(h1:allF eqN ls ls2=allF eqV ls ls2):eqN (.mk k n bs ls) (.mk k2 n2 bs2 ls2)=eqV (.mk k n bs ls) (.mk k2 n2 bs2 ls2):=by
 rw [eqN,eqV,eqNL_all,eqL_all,h1,hk]
 simp
theorem eqN_eq:∀(t:TT)(v w:VT),hasT t v=true→hasT t w=true→eqN v w=eqV v w
 | .mk k l s L [],.mk k1 n1 b1 l1,.mk k2 n2 b2 l2,h1,h2=>by
   have hk:=hasT_kind h1 h2
   rw [hasT_nil,Bool.and_eq_true] at h1 h2
   have e1:l1=[]:=List.eq_nil_of_length_eq_zero (has0_l h1.2)
   subst e1
   exact eqN_flat hk rfl
 | .mk k l s L [e],.mk k1 n1 b1 l1,.mk k2 n2 b2 l2,h1,h2=>by
   have hk:=hasT_kind h1 h2
   rw [hasT] at h1 h2
   simp only [Bool.and_eq_true] at h1 h2
   exact eqN_flat hk (allF_has (eqN_eq e) l1 l2 h1.2.2.2 h2.2.2.2)
 | .mk k l s L (a::b::r),.mk k1 n1 b1 l1,.mk k2 n2 b2 l2,h1,h2=>by
   have hk:=hasT_kind h1 h2
   rw [hasT_more,Bool.and_eq_true] at h1 h2
   have e1:l1=[]:=List.eq_nil_of_length_eq_zero (has0_l h1.2)
   subst e1
   exact eqN_flat hk rfl
theorem run40T(t:TT)(v w:VT)(hv:vSm v)(hw:vSm w)(ht:validT t=true)(h1:hasT t v=true)(h2:hasT t w=true):evW 40 [tA t,vA v,vA w] []=oR (.tup [.bool (eqV v w),okE]):=by
 have a:=run32T t v hv
 have b:=run32T t w hw
 have c:=run105T v w hv
 rw [ht,h1,Bool.true_and] at a
 rw [ht,h2,Bool.true_and] at b
 rw [eqN_eq t v w h1 h2] at c
 obtain⟨k,l,s,L,es⟩:=t
 obtain⟨k1,n1,b1,l1⟩:=v
 obtain⟨k2,n2,b2,l2⟩:=w
 rw [tA_mk] at a b ⊢
 rw [vA_mk] at a b ⊢
 rw [vA_mk]
 rw [vA_mk,vA_mk] at c
 exact run40g a b c
theorem run143g{k1 l1:Int}{s1:LU}{n1 e1:LA}:evW 143 [.agg [iA k1,iA l1,.str s1,.sl 1 n1,.sl 5 e1]] []=oR (.bool (k1==1||k1==4)):=by
 rw [w143 rfl]
 conv=>lhs;arg 2;whnf
 simp +contextual -implicitDefEqProofs (maxSteps:=9^9) only [↓wkA,↓lv143,↓fz143,wuH,↓reduceIte,xA,xB,xC,xD,xE,xF,reduceCtorEq,xH,xI,xJ,xK,xL,xM,xN,xO,wbr]
theorem run146g{k1 l1:Int}{s1:LU}{n1 e1:LA}{m:Int}(hm:mmD true [iA l1,iA 1]=some (iA m)):evW 146 [.agg [iA k1,iA l1,.str s1,.sl 1 n1,.sl 5 e1]] []=oR (iA m):=by
 rw [w146 rfl]
 conv=>lhs;arg 2;whnf
 simp +contextual -implicitDefEqProofs (maxSteps:=9^9) only [↓wkA,↓lv146,↓fz146,wuH,↓reduceIte,xA,xB,xC,xD,xE,xF,reduceCtorEq,xH,xI,xJ,xK,xL,xM,xN,xO,hm,wbr]
theorem run74g_andG:(∀{k1 l1 k2 l2:Int}{s1 s2:LU}{n1 n2 e1 e2:LA}{n:Int}{sb:Bool}(hs:evW 142 [.agg [iA k1,iA l1,.str s1,.sl 1 n1,.sl 5 e1],.agg [iA k2,iA l2,.str s2,.sl 1 n2,.sl 5 e2]] []=oR (.bool sb)),evW 74 [.str [97,110,100],.sl 5 [[iA k1,iA l1,.str s1,.sl 1 n1,.sl 5 e1],[iA k2,iA l2,.str s2,.sl 1 n2,.sl 5 e2]],iA n] []=oR (.tup [.agg [iA k1,iA l1,.str s1,.sl 1 n1,.sl 5 e1],.bool (sb&&((k1==1||k1==4)||k1==2))]))∧(∀{k1 l1 k2 l2:Int}{s1 s2:LU}{n1 n2 e1 e2:LA}{n:Int}{sb:Bool}(hs:evW 142 [.agg [iA k1,iA l1,.str s1,.sl 1 n1,.sl 5 e1],.agg [iA k2,iA l2,.str s2,.sl 1 n2,.sl 5 e2]] []=oR (.bool sb)),evW 74 [.str [111,114],.sl 5 [[iA k1,iA l1,.str s1,.sl 1 n1,.sl 5 e1],[iA k2,iA l2,.str s2,.sl 1 n2,.sl 5 e2]],iA n] []=oR (.tup [.agg [iA k1,iA l1,.str s1,.sl 1 n1,.sl 5 e1],.bool (sb&&((k1==1||k1==4)||k1==2))]))∧(∀{k1 l1 k2 l2:Int}{s1 s2:LU}{n1 n2 e1 e2:LA}{n:Int}{sb:Bool}(hs:evW 142 [.agg [iA k1,iA l1,.str s1,.sl 1 n1,.sl 5 e1],.agg [iA k2,iA l2,.str s2,.sl 1 n2,.sl 5 e2]] []=oR (.bool sb)),evW 74 [.str [120,111,114],.sl 5 [[iA k1,iA l1,.str s1,.sl 1 n1,.sl 5 e1],[iA k2,iA l2,.str s2,.sl 1 n2,.sl 5 e2]],iA n] []=oR (.tup [.agg [iA k1,iA l1,.str s1,.sl 1 n1,.sl 5 e1],.bool (sb&&((k1==1||k1==4)||k1==2))]))∧(∀{k1 l1 k2 l2:Int}{s1 s2:LU}{n1 n2 e1 e2:LA}{n:Int}{sb:Bool}(hs:evW 142 [.agg [iA k1,iA l1,.str s1,.sl 1 n1,.sl 5 e1],.agg [iA k2,iA l2,.str s2,.sl 1 n2,.sl 5 e2]] []=oR (.bool sb)),evW 74 [.str [110,97,110,100],.sl 5 [[iA k1,iA l1,.str s1,.sl 1 n1,.sl 5 e1],[iA k2,iA l2,.str s2,.sl 1 n2,.sl 5 e2]],iA n] []=oR (.tup [.agg [iA k1,iA l1,.str s1,.sl 1 n1,.sl 5 e1],.bool (sb&&((k1==1||k1==4)||k1==2))]))∧(∀{k1 l1 k2 l2:Int}{s1 s2:LU}{n1 n2 e1 e2:LA}{n:Int}{sb:Bool}(hs:evW 142 [.agg [iA k1,iA l1,.str s1,.sl 1 n1,.sl 5 e1],.agg [iA k2,iA l2,.str s2,.sl 1 n2,.sl 5 e2]] []=oR (.bool sb)),evW 74 [.str [110,111,114],.sl 5 [[iA k1,iA l1,.str s1,.sl 1 n1,.sl 5 e1],[iA k2,iA l2,.str s2,.sl 1 n2,.sl 5 e2]],iA n] []=oR (.tup [.agg [iA k1,iA l1,.str s1,.sl 1 n1,.sl 5 e1],.bool (sb&&((k1==1||k1==4)||k1==2))]))∧(∀{k1 l1 k2 l2:Int}{s1 s2:LU}{n1 n2 e1 e2:LA}{n:Int}{sb:Bool}(hs:evW 142 [.agg [iA k1,iA l1,.str s1,.sl 1 n1,.sl 5 e1],.agg [iA k2,iA l2,.str s2,.sl 1 n2,.sl 5 e2]] []=oR (.bool sb)),evW 74 [.str [120,110,111,114],.sl 5 [[iA k1,iA l1,.str s1,.sl 1 n1,.sl 5 e1],[iA k2,iA l2,.str s2,.sl 1 n2,.sl 5 e2]],iA n] []=oR (.tup [.agg [iA k1,iA l1,.str s1,.sl 1 n1,.sl 5 e1],.bool (sb&&((k1==1||k1==4)||k1==2))]))∧(∀{k1 l1 k2 l2:Int}{s1 s2:LU}{n1 n2 e1 e2:LA}{n:Int}{sb:Bool}(hs:evW 142 [.agg [iA k1,iA l1,.str s1,.sl 1 n1,.sl 5 e1],.agg [iA k2,iA l2,.str s2,.sl 1 n2,.sl 5 e2]] []=oR (.bool sb)),evW 74 [.str [61],.sl 5 [[iA k1,iA l1,.str s1,.sl 1 n1,.sl 5 e1],[iA k2,iA l2,.str s2,.sl 1 n2,.sl 5 e2]],iA n] []=oR (.tup [tyA 2 0,.bool (sb)]))∧(∀{k1 l1 k2 l2:Int}{s1 s2:LU}{n1 n2 e1 e2:LA}{n:Int}{sb:Bool}(hs:evW 142 [.agg [iA k1,iA l1,.str s1,.sl 1 n1,.sl 5 e1],.agg [iA k2,iA l2,.str s2,.sl 1 n2,.sl 5 e2]] []=oR (.bool sb)),evW 74 [.str [47,61],.sl 5 [[iA k1,iA l1,.str s1,.sl 1 n1,.sl 5 e1],[iA k2,iA l2,.str s2,.sl 1 n2,.sl 5 e2]],iA n] []=oR (.tup [tyA 2 0,.bool (sb)]))∧(∀{k1 l1 k2 l2:Int}{s1 s2:LU}{n1 n2 e1 e2:LA}{n:Int}{sb:Bool}(hs:evW 142 [.agg [iA k1,iA l1,.str s1,.sl 1 n1,.sl 5 e1],.agg [iA k2,iA l2,.str s2,.sl 1 n2,.sl 5 e2]] []=oR (.bool sb)),evW 74 [.str [60],.sl 5 [[iA k1,iA l1,.str s1,.sl 1 n1,.sl 5 e1],[iA k2,iA l2,.str s2,.sl 1 n2,.sl 5 e2]],iA n] []=oR (.tup [tyA 2 0,.bool (sb&&(k1==3||k1==4))]))∧(∀{k1 l1 k2 l2:Int}{s1 s2:LU}{n1 n2 e1 e2:LA}{n:Int}{sb:Bool}(hs:evW 142 [.agg [iA k1,iA l1,.str s1,.sl 1 n1,.sl 5 e1],.agg [iA k2,iA l2,.str s2,.sl 1 n2,.sl 5 e2]] []=oR (.bool sb)),evW 74 [.str [60,61],.sl 5 [[iA k1,iA l1,.str s1,.sl 1 n1,.sl 5 e1],[iA k2,iA l2,.str s2,.sl 1 n2,.sl 5 e2]],iA n] []=oR (.tup [tyA 2 0,.bool (sb&&(k1==3||k1==4))]))∧(∀{k1 l1 k2 l2:Int}{s1 s2:LU}{n1 n2 e1 e2:LA}{n:Int}{sb:Bool}(hs:evW 142 [.agg [iA k1,iA l1,.str s1,.sl 1 n1,.sl 5 e1],.agg [iA k2,iA l2,.str s2,.sl 1 n2,.sl 5 e2]] []=oR (.bool sb)),evW 74 [.str [62],.sl 5 [[iA k1,iA l1,.str s1,.sl 1 n1,.sl 5 e1],[iA k2,iA l2,.str s2,.sl 1 n2,.sl 5 e2]],iA n] []=oR (.tup [tyA 2 0,.bool (sb&&(k1==3||k1==4))]))∧(∀{k1 l1 k2 l2:Int}{s1 s2:LU}{n1 n2 e1 e2:LA}{n:Int}{sb:Bool}(hs:evW 142 [.agg [iA k1,iA l1,.str s1,.sl 1 n1,.sl 5 e1],.agg [iA k2,iA l2,.str s2,.sl 1 n2,.sl 5 e2]] []=oR (.bool sb)),evW 74 [.str [62,61],.sl 5 [[iA k1,iA l1,.str s1,.sl 1 n1,.sl 5 e1],[iA k2,iA l2,.str s2,.sl 1 n2,.sl 5 e2]],iA n] []=oR (.tup [tyA 2 0,.bool (sb&&(k1==3||k1==4))]))∧(∀{k1 l1 k2 l2:Int}{s1 s2:LU}{n1 n2 e1 e2:LA}{n:Int}{sb:Bool}(hs:evW 142 [.agg [iA k1,iA l1,.str s1,.sl 1 n1,.sl 5 e1],.agg [iA k2,iA l2,.str s2,.sl 1 n2,.sl 5 e2]] []=oR (.bool sb)),evW 74 [.str [43],.sl 5 [[iA k1,iA l1,.str s1,.sl 1 n1,.sl 5 e1],[iA k2,iA l2,.str s2,.sl 1 n2,.sl 5 e2]],iA n] []=oR (.tup [.agg [iA k1,iA l1,.str s1,.sl 1 n1,.sl 5 e1],.bool (sb&&(k1==3||k1==4))]))∧(∀{k1 l1 k2 l2:Int}{s1 s2:LU}{n1 n2 e1 e2:LA}{n:Int}{sb:Bool}(hs:evW 142 [.agg [iA k1,iA l1,.str s1,.sl 1 n1,.sl 5 e1],.agg [iA k2,iA l2,.str s2,.sl 1 n2,.sl 5 e2]] []=oR (.bool sb)),evW 74 [.str [45],.sl 5 [[iA k1,iA l1,.str s1,.sl 1 n1,.sl 5 e1],[iA k2,iA l2,.str s2,.sl 1 n2,.sl 5 e2]],iA n] []=oR (.tup [.agg [iA k1,iA l1,.str s1,.sl 1 n1,.sl 5 e1],.bool (sb&&(k1==3||k1==4))]))∧(∀{k1 l1 k2 l2:Int}{s1 s2:LU}{n1 n2 e1 e2:LA}{n:Int}{sb:Bool}(hs:evW 142 [.agg [iA k1,iA l1,.str s1,.sl 1 n1,.sl 5 e1],.agg [iA k2,iA l2,.str s2,.sl 1 n2,.sl 5 e2]] []=oR (.bool sb)),evW 74 [.str [42],.sl 5 [[iA k1,iA l1,.str s1,.sl 1 n1,.sl 5 e1],[iA k2,iA l2,.str s2,.sl 1 n2,.sl 5 e2]],iA n] []=oR (.tup [.agg [iA k1,iA l1,.str s1,.sl 1 n1,.sl 5 e1],.bool (sb&&(k1==3||k1==4))]))∧(∀{k1 l1 k2 l2:Int}{s1 s2:LU}{n1 n2 e1 e2:LA}{n:Int}{sb:Bool}(hs:evW 142 [.agg [iA k1,iA l1,.str s1,.sl 1 n1,.sl 5 e1],.agg [iA k2,iA l2,.str s2,.sl 1 n2,.sl 5 e2]] []=oR (.bool sb)),evW 74 [.str [47],.sl 5 [[iA k1,iA l1,.str s1,.sl 1 n1,.sl 5 e1],[iA k2,iA l2,.str s2,.sl 1 n2,.sl 5 e2]],iA n] []=oR (.tup [.agg [iA k1,iA l1,.str s1,.sl 1 n1,.sl 5 e1],.bool (sb&&k1==3)]))∧(∀{k1 l1 k2 l2:Int}{s1 s2:LU}{n1 n2 e1 e2:LA}{n:Int}{sb:Bool}(hs:evW 142 [.agg [iA k1,iA l1,.str s1,.sl 1 n1,.sl 5 e1],.agg [iA k2,iA l2,.str s2,.sl 1 n2,.sl 5 e2]] []=oR (.bool sb)),evW 74 [.str [109,111,100],.sl 5 [[iA k1,iA l1,.str s1,.sl 1 n1,.sl 5 e1],[iA k2,iA l2,.str s2,.sl 1 n2,.sl 5 e2]],iA n] []=oR (.tup [.agg [iA k1,iA l1,.str s1,.sl 1 n1,.sl 5 e1],.bool (sb&&k1==3)]))∧(∀{k1 l1 k2 l2:Int}{s1 s2:LU}{n1 n2 e1 e2:LA}{n:Int}{sb:Bool}(hs:evW 142 [.agg [iA k1,iA l1,.str s1,.sl 1 n1,.sl 5 e1],.agg [iA k2,iA l2,.str s2,.sl 1 n2,.sl 5 e2]] []=oR (.bool sb)),evW 74 [.str [115,104,108],.sl 5 [[iA k1,iA l1,.str s1,.sl 1 n1,.sl 5 e1],[iA k2,iA l2,.str s2,.sl 1 n2,.sl 5 e2]],iA n] []=oR (.tup [.agg [iA k1,iA l1,.str s1,.sl 1 n1,.sl 5 e1],.bool (k1==4&&k2==3)]))∧(∀{k1 l1 k2 l2:Int}{s1 s2:LU}{n1 n2 e1 e2:LA}{n:Int}{sb:Bool}(hs:evW 142 [.agg [iA k1,iA l1,.str s1,.sl 1 n1,.sl 5 e1],.agg [iA k2,iA l2,.str s2,.sl 1 n2,.sl 5 e2]] []=oR (.bool sb)),evW 74 [.str [115,104,114],.sl 5 [[iA k1,iA l1,.str s1,.sl 1 n1,.sl 5 e1],[iA k2,iA l2,.str s2,.sl 1 n2,.sl 5 e2]],iA n] []=oR (.tup [.agg [iA k1,iA l1,.str s1,.sl 1 n1,.sl 5 e1],.bool (k1==4&&k2==3)]))∧(∀{k1 l1 k2 l2:Int}{s1 s2:LU}{n1 n2 e1 e2:LA}{n:Int}{sb:Bool}(hs:evW 142 [.agg [iA k1,iA l1,.str s1,.sl 1 n1,.sl 5 e1],.agg [iA k2,iA l2,.str s2,.sl 1 n2,.sl 5 e2]] []=oR (.bool sb)),evW 74 [.str [115,108,116],.sl 5 [[iA k1,iA l1,.str s1,.sl 1 n1,.sl 5 e1],[iA k2,iA l2,.str s2,.sl 1 n2,.sl 5 e2]],iA n] []=oR (.tup [tyA 2 0,.bool (sb&&k1==4)]))∧(∀{k1 l1 k2 l2:Int}{s1 s2:LU}{n1 n2 e1 e2:LA}{n:Int}{sb:Bool}(hs:evW 142 [.agg [iA k1,iA l1,.str s1,.sl 1 n1,.sl 5 e1],.agg [iA k2,iA l2,.str s2,.sl 1 n2,.sl 5 e2]] []=oR (.bool sb)),evW 74 [.str [116,111,95,118,101,99],.sl 5 [[iA k1,iA l1,.str s1,.sl 1 n1,.sl 5 e1],[iA k2,iA l2,.str s2,.sl 1 n2,.sl 5 e2]],iA n] []=oR (.tup [tyA 4 n,.bool (k1==3&&k2==3)]))∧(∀{k1 l1 k2 l2:Int}{s1 s2:LU}{n1 n2 e1 e2:LA}{n:Int}{sb:Bool}(hs:evW 142 [.agg [iA k1,iA l1,.str s1,.sl 1 n1,.sl 5 e1],.agg [iA k2,iA l2,.str s2,.sl 1 n2,.sl 5 e2]] []=oR (.bool sb)),evW 74 [.str [114,101,115,105,122,101],.sl 5 [[iA k1,iA l1,.str s1,.sl 1 n1,.sl 5 e1],[iA k2,iA l2,.str s2,.sl 1 n2,.sl 5 e2]],iA n] []=oR (.tup [tyA 4 n,.bool (k1==4&&k2==3)]))∧(∀{k1 l1 k2 l2:Int}{s1 s2:LU}{n1 n2 e1 e2:LA}{n:Int}{sb:Bool}(hs:evW 142 [.agg [iA k1,iA l1,.str s1,.sl 1 n1,.sl 5 e1],.agg [iA k2,iA l2,.str s2,.sl 1 n2,.sl 5 e2]] []=oR (.bool sb)),evW 74 [.str [110,111,116],.sl 5 [[iA k1,iA l1,.str s1,.sl 1 n1,.sl 5 e1],[iA k2,iA l2,.str s2,.sl 1 n2,.sl 5 e2]],iA n] []=oR (.tup [tyA 0 0,.bool (false)]))∧(∀{k1 l1 k2 l2:Int}{s1 s2:LU}{n1 n2 e1 e2:LA}{n:Int}{sb:Bool}(hs:evW 142 [.agg [iA k1,iA l1,.str s1,.sl 1 n1,.sl 5 e1],.agg [iA k2,iA l2,.str s2,.sl 1 n2,.sl 5 e2]] []=oR (.bool sb)),evW 74 [.str [116,111,95,105,110,116],.sl 5 [[iA k1,iA l1,.str s1,.sl 1 n1,.sl 5 e1],[iA k2,iA l2,.str s2,.sl 1 n2,.sl 5 e2]],iA n] []=oR (.tup [tyA 0 0,.bool (false)]))∧(∀{k1 l1 k2 l2:Int}{s1 s2:LU}{n1 n2 e1 e2:LA}{n:Int}{sb:Bool}(hs:evW 142 [.agg [iA k1,iA l1,.str s1,.sl 1 n1,.sl 5 e1],.agg [iA k2,iA l2,.str s2,.sl 1 n2,.sl 5 e2]] []=oR (.bool sb)),evW 74 [.str [105,115,95,120],.sl 5 [[iA k1,iA l1,.str s1,.sl 1 n1,.sl 5 e1],[iA k2,iA l2,.str s2,.sl 1 n2,.sl 5 e2]],iA n] []=oR (.tup [tyA 0 0,.bool (false)]))∧(∀{k1 l1 k2 l2:Int}{s1 s2:LU}{n1 n2 e1 e2:LA}{n:Int}{sb:Bool}(hs:evW 142 [.agg [iA k1,iA l1,.str s1,.sl 1 n1,.sl 5 e1],.agg [iA k2,iA l2,.str s2,.sl 1 n2,.sl 5 e2]] []=oR (.bool sb)),evW 74 [.str [108,101,110,103,116,104],.sl 5 [[iA k1,iA l1,.str s1,.sl 1 n1,.sl 5 e1],[iA k2,iA l2,.str s2,.sl 1 n2,.sl 5 e2]],iA n] []=oR (.tup [tyA 0 0,.bool (false)])):=by
 refine⟨?_,?_,?_,?_,?_,?_,?_,?_,?_,?_,?_,?_,?_,?_,?_,?_,?_,?_,?_,?_,?_,?_,?_,?_,?_,?_⟩<;>intros<;>rw [w74 rfl]<;>conv=>lhs;arg 2;whnf
 all_goals simp +contextual -implicitDefEqProofs (maxSteps:=9^9) only [↓wkA,↓lv74,↓fz74,↓tbr74,wuH,↓reduceIte,xA,xB,xC,xD,xE,xF,reduceCtorEq,xH,xI,xJ,xK,xL,xM,xN,xO,run143g,run144,run145, *,wbr]
def run74g_and:=@run74g_andG.1
def run74g_or:=@run74g_andG.2.1
def run74g_xor:=@run74g_andG.2.2.1
def run74g_nand:=@run74g_andG.2.2.2.1
def run74g_nor:=@run74g_andG.2.2.2.2.1
def run74g_xnor:=@run74g_andG.2.2.2.2.2.1
def run74g_eq:=@run74g_andG.2.2.2.2.2.2.1
def run74g_ne:=@run74g_andG.2.2.2.2.2.2.2.1
def run74g_lt:=@run74g_andG.2.2.2.2.2.2.2.2.1
def run74g_le:=@run74g_andG.2.2.2.2.2.2.2.2.2.1
def run74g_gt:=@run74g_andG.2.2.2.2.2.2.2.2.2.2.1
def run74g_ge:=@run74g_andG.2.2.2.2.2.2.2.2.2.2.2.1
def run74g_add:=@run74g_andG.2.2.2.2.2.2.2.2.2.2.2.2.1
def run74g_sub:=@run74g_andG.2.2.2.2.2.2.2.2.2.2.2.2.2.1
def run74g_mul:=@run74g_andG.2.2.2.2.2.2.2.2.2.2.2.2.2.2.1
def run74g_div:=@run74g_andG.2.2.2.2.2.2.2.2.2.2.2.2.2.2.2.1
def run74g_mod:=@run74g_andG.2.2.2.2.2.2.2.2.2.2.2.2.2.2.2.2.1
def run74g_shl:=@run74g_andG.2.2.2.2.2.2.2.2.2.2.2.2.2.2.2.2.2.1
def run74g_shr:=@run74g_andG.2.2.2.2.2.2.2.2.2.2.2.2.2.2.2.2.2.2.1
def run74g_slt:=@run74g_andG.2.2.2.2.2.2.2.2.2.2.2.2.2.2.2.2.2.2.2.1
def run74g_to_vec:=@run74g_andG.2.2.2.2.2.2.2.2.2.2.2.2.2.2.2.2.2.2.2.2.1
def run74g_resize:=@run74g_andG.2.2.2.2.2.2.2.2.2.2.2.2.2.2.2.2.2.2.2.2.2.1
def run74g_not:=@run74g_andG.2.2.2.2.2.2.2.2.2.2.2.2.2.2.2.2.2.2.2.2.2.2.1
def run74g_to_int:=@run74g_andG.2.2.2.2.2.2.2.2.2.2.2.2.2.2.2.2.2.2.2.2.2.2.2.1
def run74g_is_x:=@run74g_andG.2.2.2.2.2.2.2.2.2.2.2.2.2.2.2.2.2.2.2.2.2.2.2.2.1
def run74g_length:=@run74g_andG.2.2.2.2.2.2.2.2.2.2.2.2.2.2.2.2.2.2.2.2.2.2.2.2.2
end Go.Proofs.YtdhcgankmhpgeaaGreat.M
