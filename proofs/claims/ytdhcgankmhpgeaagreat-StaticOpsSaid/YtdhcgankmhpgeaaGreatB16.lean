import Derived.Test.YtdhcgankmhpgeaaGreatB15
set_option linter.all false
namespace Go.Proofs.YtdhcgankmhpgeaaGreat.M
open Go
open Nat renaming reduceEqDiff → xA, reduceLT → xB, reduceAdd → xC, reduceMul → xD, reduceSub → xE, reduceDiv → xF, reduceLeDiff → xN
open Int renaming reduceAdd → xH, reduceLE → xI, reduceLT → xJ, reduceToNat → xK, reduceEq → xL, reduceBEq → xM
open UInt8 renaming reduceToNat → xO
set_option maxRecDepth 100000
set_option maxHeartbeats 4000000
attribute [local congr] br_congr ob2_congr cnd_congr gdK_congr ob_congr clK_congr finK_congr reg_congr pkK_congr kTK_congr dlT_congr gck_congr iff2_congr sel_congr dPn_congr apJ_congr nmK_congr kTo_congr fzO_congr rcK_congr lvB_congr crK_congr cdB_congr
theorem run275n:evW 275 [.sl 5 [],.sl 5 [],.fn 227 []] []=oR (.bool true):=by
 rw [w275 rfl]
 conv=>lhs;arg 2;whnf
 simp +contextual -implicitDefEqProofs (maxSteps:=9^9) only [↓wkA,↓lv275,↓fz275,wuH,↓reduceIte,xA,xB,xC,xD,xE,xF,reduceCtorEq,xH,xI,xJ,xK,xL,xM,xN,xO,wbr]
 refine(lpX_code (c':=lp Tryz.f275 0) (by kernel_rfl)).trans ?_
 rw [lq275_0]
 try simp +contextual -implicitDefEqProofs (maxSteps:=9^9) only [↓wkA,↓lv275,↓fz275,wuH,↓reduceIte,xA,xB,xC,xD,xE,xF,reduceCtorEq,xH,xI,xJ,xK,xL,xM,xN,xO,wbr]
 unfold lpN
 conv=>lhs;arg 2;whnf
 simp +contextual -implicitDefEqProofs (maxSteps:=9^9) only [↓wkA,↓lv275,↓fz275,wuH,↓reduceIte,xA,xB,xC,xD,xE,xF,reduceCtorEq,xH,xI,xJ,xK,xL,xM,xN,xO,lq275_0,wbr]
theorem run275t{k1 l1:Int}{s1:LU}{L1:LB}{es1:LA}{k2 l2:Int}{s2:LU}{L2:LB}{es2:LA}(h:evW 227 [.agg [iA k1,iA l1,.str s1,.sl 1 (L1.map sC),.sl 5 es1],.agg [iA k2,iA l2,.str s2,.sl 1 (L2.map sC),.sl 5 es2]] []=oR (.bool true)):evW 275 [.sl 5 [[iA k1,iA l1,.str s1,.sl 1 (L1.map sC),.sl 5 es1]],.sl 5 [[iA k2,iA l2,.str s2,.sl 1 (L2.map sC),.sl 5 es2]],.fn 227 []] []=oR (.bool true):=by
 rw [w275 rfl]
 conv=>lhs;arg 2;whnf
 simp +contextual -implicitDefEqProofs (maxSteps:=9^9) only [↓wkA,↓lv275,↓fz275,wuH,↓reduceIte,xA,xB,xC,xD,xE,xF,reduceCtorEq,xH,xI,xJ,xK,xL,xM,xN,xO,h,wbr]
 refine(lpX_code (c':=lp Tryz.f275 0) (by kernel_rfl)).trans ?_
 rw [lq275_0]
 try simp +contextual -implicitDefEqProofs (maxSteps:=9^9) only [↓wkA,↓lv275,↓fz275,wuH,↓reduceIte,xA,xB,xC,xD,xE,xF,reduceCtorEq,xH,xI,xJ,xK,xL,xM,xN,xO,h,wbr]
 unfold lpN
 conv=>lhs;arg 2;whnf
 simp +contextual -implicitDefEqProofs (maxSteps:=9^9) only [↓wkA,↓lv275,↓fz275,wuH,↓reduceIte,xA,xB,xC,xD,xE,xF,reduceCtorEq,xH,xI,xJ,xK,xL,xM,xN,xO,h,lq275_0,wbr]
 unfold lpN
 conv=>lhs;arg 2;whnf
 simp +contextual -implicitDefEqProofs (maxSteps:=9^9) only [↓wkA,↓lv275,↓fz275,wuH,↓reduceIte,xA,xB,xC,xD,xE,xF,reduceCtorEq,xH,xI,xJ,xK,xL,xM,xN,xO,h,lq275_0,wbr]
theorem run275f{k1 l1:Int}{s1:LU}{L1:LB}{es1:LA}{k2 l2:Int}{s2:LU}{L2:LB}{es2:LA}(h:evW 227 [.agg [iA k1,iA l1,.str s1,.sl 1 (L1.map sC),.sl 5 es1],.agg [iA k2,iA l2,.str s2,.sl 1 (L2.map sC),.sl 5 es2]] []=oR (.bool false)):evW 275 [.sl 5 [[iA k1,iA l1,.str s1,.sl 1 (L1.map sC),.sl 5 es1]],.sl 5 [[iA k2,iA l2,.str s2,.sl 1 (L2.map sC),.sl 5 es2]],.fn 227 []] []=oR (.bool false):=by
 rw [w275 rfl]
 conv=>lhs;arg 2;whnf
 simp +contextual -implicitDefEqProofs (maxSteps:=9^9) only [↓wkA,↓lv275,↓fz275,wuH,↓reduceIte,xA,xB,xC,xD,xE,xF,reduceCtorEq,xH,xI,xJ,xK,xL,xM,xN,xO,h,wbr]
 refine(lpX_code (c':=lp Tryz.f275 0) (by kernel_rfl)).trans ?_
 rw [lq275_0]
 try simp +contextual -implicitDefEqProofs (maxSteps:=9^9) only [↓wkA,↓lv275,↓fz275,wuH,↓reduceIte,xA,xB,xC,xD,xE,xF,reduceCtorEq,xH,xI,xJ,xK,xL,xM,xN,xO,h,wbr]
 unfold lpN
 conv=>lhs;arg 2;whnf
 simp +contextual -implicitDefEqProofs (maxSteps:=9^9) only [↓wkA,↓lv275,↓fz275,wuH,↓reduceIte,xA,xB,xC,xD,xE,xF,reduceCtorEq,xH,xI,xJ,xK,xL,xM,xN,xO,h,lq275_0,wbr]
theorem run227x0{k1 l1:Int}{s1:LU}{L1:LB}{es1:LA}{k2 l2:Int}{s2:LU}{L2:LB}{es2:LA}{b:Bool}(hb:L1.length<4611686018427387904)(hE:evW 275 [.sl 5 es1,.sl 5 es2,.fn 227 []] []=oR (.bool b))(q0:(k1==k2)=false):evW 227 [.agg [iA k1,iA l1,.str s1,.sl 1 (L1.map sC),.sl 5 es1],.agg [iA k2,iA l2,.str s2,.sl 1 (L2.map sC),.sl 5 es2]] []=oR (.bool false):=by
 have h3:=run294 (L:=L1) (M:=L2) hb
 rw [w227 rfl]
 conv=>lhs;arg 2;whnf
 simp +contextual -implicitDefEqProofs (maxSteps:=9^9) only [↓wkA,↓lv227,↓fz227,wuH,↓reduceIte,xA,xB,xC,xD,xE,xF,reduceCtorEq,xH,xI,xJ,xK,xL,xM,xN,xO,q0,h3,hE,wbr]
theorem run227x1{k1 l1:Int}{s1:LU}{L1:LB}{es1:LA}{k2 l2:Int}{s2:LU}{L2:LB}{es2:LA}{b:Bool}(hb:L1.length<4611686018427387904)(hE:evW 275 [.sl 5 es1,.sl 5 es2,.fn 227 []] []=oR (.bool b))(q0:(k1==k2)=true)(q1:(l1==l2)=false):evW 227 [.agg [iA k1,iA l1,.str s1,.sl 1 (L1.map sC),.sl 5 es1],.agg [iA k2,iA l2,.str s2,.sl 1 (L2.map sC),.sl 5 es2]] []=oR (.bool false):=by
 have h3:=run294 (L:=L1) (M:=L2) hb
 rw [w227 rfl]
 conv=>lhs;arg 2;whnf
 simp +contextual -implicitDefEqProofs (maxSteps:=9^9) only [↓wkA,↓lv227,↓fz227,wuH,↓reduceIte,xA,xB,xC,xD,xE,xF,reduceCtorEq,xH,xI,xJ,xK,xL,xM,xN,xO,q0,q1,h3,hE,wbr]
theorem run227x2{k1 l1:Int}{s1:LU}{L1:LB}{es1:LA}{k2 l2:Int}{s2:LU}{L2:LB}{es2:LA}{b:Bool}(hb:L1.length<4611686018427387904)(hE:evW 275 [.sl 5 es1,.sl 5 es2,.fn 227 []] []=oR (.bool b))(q0:(k1==k2)=true)(q1:(l1==l2)=true)(q2:(s1==s2)=false):evW 227 [.agg [iA k1,iA l1,.str s1,.sl 1 (L1.map sC),.sl 5 es1],.agg [iA k2,iA l2,.str s2,.sl 1 (L2.map sC),.sl 5 es2]] []=oR (.bool false):=by
 have h3:=run294 (L:=L1) (M:=L2) hb
 rw [w227 rfl]
 conv=>lhs;arg 2;whnf
 simp +contextual -implicitDefEqProofs (maxSteps:=9^9) only [↓wkA,↓lv227,↓fz227,wuH,↓reduceIte,xA,xB,xC,xD,xE,xF,reduceCtorEq,xH,xI,xJ,xK,xL,xM,xN,xO,q0,q1,q2,h3,hE,wbr]
theorem run227x3{k1 l1:Int}{s1:LU}{L1:LB}{es1:LA}{k2 l2:Int}{s2:LU}{L2:LB}{es2:LA}{b:Bool}(hb:L1.length<4611686018427387904)(hE:evW 275 [.sl 5 es1,.sl 5 es2,.fn 227 []] []=oR (.bool b))(q0:(k1==k2)=true)(q1:(l1==l2)=true)(q2:(s1==s2)=true)(q3:(L1==L2)=false):evW 227 [.agg [iA k1,iA l1,.str s1,.sl 1 (L1.map sC),.sl 5 es1],.agg [iA k2,iA l2,.str s2,.sl 1 (L2.map sC),.sl 5 es2]] []=oR (.bool false):=by
 have h3:=run294 (L:=L1) (M:=L2) hb
 rw [w227 rfl]
 conv=>lhs;arg 2;whnf
 simp +contextual -implicitDefEqProofs (maxSteps:=9^9) only [↓wkA,↓lv227,↓fz227,wuH,↓reduceIte,xA,xB,xC,xD,xE,xF,reduceCtorEq,xH,xI,xJ,xK,xL,xM,xN,xO,q0,q1,q2,q3,h3,hE,wbr]
theorem run227xa{k1 l1:Int}{s1:LU}{L1:LB}{es1:LA}{k2 l2:Int}{s2:LU}{L2:LB}{es2:LA}{b:Bool}(hb:L1.length<4611686018427387904)(hE:evW 275 [.sl 5 es1,.sl 5 es2,.fn 227 []] []=oR (.bool b))(q0:(k1==k2)=true)(q1:(l1==l2)=true)(q2:(s1==s2)=true)(q3:(L1==L2)=true):evW 227 [.agg [iA k1,iA l1,.str s1,.sl 1 (L1.map sC),.sl 5 es1],.agg [iA k2,iA l2,.str s2,.sl 1 (L2.map sC),.sl 5 es2]] []=oR (.bool b):=by
 have h3:=run294 (L:=L1) (M:=L2) hb
 rw [w227 rfl]
 conv=>lhs;arg 2;whnf
 simp +contextual -implicitDefEqProofs (maxSteps:=9^9) only [↓wkA,↓lv227,↓fz227,wuH,↓reduceIte,xA,xB,xC,xD,xE,xF,reduceCtorEq,xH,xI,xJ,xK,xL,xM,xN,xO,q0,q1,q2,q3,h3,hE,wbr]
theorem run227g{k1 l1:Int}{s1:LU}{L1:LB}{es1:LA}{k2 l2:Int}{s2:LU}{L2:LB}{es2:LA}{b:Bool}(hb:L1.length<4611686018427387904)(hE:evW 275 [.sl 5 es1,.sl 5 es2,.fn 227 []] []=oR (.bool b)):evW 227 [.agg [iA k1,iA l1,.str s1,.sl 1 (L1.map sC),.sl 5 es1],.agg [iA k2,iA l2,.str s2,.sl 1 (L2.map sC),.sl 5 es2]] []=oR (.bool ((k1==k2)&&((l1==l2)&&((s1==s2)&&((L1==L2)&&b))))):=by
 cases q0:(k1==k2) with
 | false=>exact run227x0 hb hE q0
 | true =>
 cases q1:(l1==l2) with
 | false=>exact run227x1 hb hE q0 q1
 | true =>
 cases q2:(s1==s2) with
 | false=>exact run227x2 hb hE q0 q1 q2
 | true =>
 cases q3:(L1==L2) with
 | false=>exact run227x3 hb hE q0 q1 q2 q3
 | true =>
 exact run227xa hb hE q0 q1 q2 q3
def sameT:TT→TT→Bool
 | .mk k l s L [e],.mk k2 l2 s2 L2 [e2]=>(k==k2)&&((l==l2)&&((s==s2)&&((L==L2)&&sameT e e2)))
 | .mk k l s L [],.mk k2 l2 s2 L2 []=>(k==k2)&&((l==l2)&&((s==s2)&&((L==L2)&&true)))
 | _,_=>false
theorem run275ncG:(∀{k2 l2:Int}{s2:LU}{L2:LB}{es2:LA},evW 275 [.sl 5 [],.sl 5 [[iA k2,iA l2,.str s2,.sl 1 (L2.map sC),.sl 5 es2]],.fn 227 []] []=oR (.bool false))∧(∀{k1 l1:Int}{s1:LU}{L1:LB}{es1:LA},evW 275 [.sl 5 [[iA k1,iA l1,.str s1,.sl 1 (L1.map sC),.sl 5 es1]],.sl 5 [],.fn 227 []] []=oR (.bool false)):=by
 refine⟨?_,?_⟩<;>intros<;>rw [w275 rfl]<;>conv=>lhs;arg 2;whnf
 all_goals simp +contextual -implicitDefEqProofs (maxSteps:=9^9) only [↓wkA,↓lv275,↓fz275,wuH,↓reduceIte,xA,xB,xC,xD,xE,xF,reduceCtorEq,xH,xI,xJ,xK,xL,xM,xN,xO,wbr]
def run275nc:=@run275ncG.1
def run275cn:=@run275ncG.2
theorem plain_no{a b:Bool}{l:Int}{s:LU}{n m:Nat}:plainB a b false l s n (m+1)=false:=by
 have:(((m+1:Nat):Int)==0)=false:=by simp;omega
 unfold plainB
 rw [this]
 cases (a||l==0)<;>cases (b||(s==[]&&(n:Int)==0))<;>rfl
theorem valid0_no{k l:Int}{s:LU}{L:LB}{m:Nat}:valid0 k l s L (m+1)=false:=by
 unfold valid0
 rw [plain_no,plain_no,plain_no]
 simp
theorem valid_more{k l:Int}{s:LU}{L:LB}{a b:TT}{r:List TT}:validT (.mk k l s L (a::b::r))=false:=by
 rw [validT,show r.length+2=(r.length+1)+1 from rfl,valid0_no]
 simp
theorem valid_elem{k l:Int}{s:LU}{L:LB}{e:TT}(h:validT (.mk k l s L [e])=true):k=6∧validT e=true:=by
 rw [validT] at h
 cases hk:k==6 with
 | true =>
   rw [hk] at h
   simp only [if_true,Bool.and_eq_true] at h
   exact⟨eq_of_beq hk,h.2.2.2⟩
 | false =>
   rw [hk,show (1:Nat)=0+1 from rfl,valid0_no] at h
   simp at h
theorem valid_nil{k l:Int}{s:LU}{L:LB}(h:validT (.mk k l s L [])=true):(k==6)=false:=by
 cases hk:k==6 with
 | true =>
   rw [validT,hk] at h
   simp at h
 | false=>rfl
theorem run227T:∀(t u:TT),tSm t→validT t=true→validT u=true→evW 227 [tA t,tA u] []=oR (.bool (sameT t u))
 | .mk k l s L (a::b::r),u,_,h,_=>by rw [valid_more] at h;cases h
 | t,.mk k l s L (a::b::r),_,_,h=>by rw [valid_more] at h;cases h
 | .mk k l s L [],.mk k2 l2 s2 L2 [],ht,_,_=>by
   rw [tSm] at ht
   rw [tA_mk,tA_mk,sameT]
   exact run227g (by omega) run275n
 | .mk k l s L [],.mk k2 l2 s2 L2 [.mk k3 l3 s3 L3 e3],ht,_,_=>by
   rw [tSm] at ht
   rw [tA_mk,tA_mk]
   refine(run227g (b:=false) (by omega) ?_).trans ?_
   ·rw [List.map_cons,List.map_nil,tC_mk]
    exact run275nc
   ·unfold sameT
    simp
 | .mk k l s L [.mk k3 l3 s3 L3 e3],.mk k2 l2 s2 L2 [],ht,_,_=>by
   rw [tSm] at ht
   rw [tA_mk,tA_mk]
   refine(run227g (b:=false) (by omega) ?_).trans ?_
   ·rw [List.map_cons,List.map_nil,tC_mk]
    exact run275cn
   ·unfold sameT
    simp
 | .mk k l s L [.mk k3 l3 s3 L3 e3],.mk k2 l2 s2 L2 [.mk k4 l4 s4 L4 e4],ht,h1,h2=>by
   rw [tSm] at ht
   have ih:=run227T (.mk k3 l3 s3 L3 e3) (.mk k4 l4 s4 L4 e4) (ht.2.2.2 _ (List.mem_singleton.2 rfl)) (valid_elem h1).2 (valid_elem h2).2
   rw [tA_mk,tA_mk] at ih ⊢
   rw [sameT]
   refine run227g (by omega) ?_
   rw [List.map_cons,List.map_nil,tC_mk,List.map_cons,List.map_nil,tC_mk]
   cases hs:sameT (.mk k3 l3 s3 L3 e3) (.mk k4 l4 s4 L4 e4) with
   | true=>rw [hs] at ih;exact run275t ih
   | false=>rw [hs] at ih;exact run275f ih
theorem run142xG:(∀{k1 l1 k2 l2:Int}{s1 s2:LU}{n1 n2 e1 e2:LA}(h1:evW 94 [tv k1 l1 s1 n1 e1] []=oR (.bool false)),evW 142 [tv k1 l1 s1 n1 e1,tv k2 l2 s2 n2 e2] []=oR (.bool false))∧(∀{k1 l1 k2 l2:Int}{s1 s2:LU}{n1 n2 e1 e2:LA}(h1:evW 94 [tv k1 l1 s1 n1 e1] []=oR (.bool true))(h2:evW 94 [tv k2 l2 s2 n2 e2] []=oR (.bool false)),evW 142 [tv k1 l1 s1 n1 e1,tv k2 l2 s2 n2 e2] []=oR (.bool false))∧(∀{k1 l1 k2 l2:Int}{s1 s2:LU}{n1 n2 e1 e2:LA}{b:Bool}(h1:evW 94 [tv k1 l1 s1 n1 e1] []=oR (.bool true))(h2:evW 94 [tv k2 l2 s2 n2 e2] []=oR (.bool true))(h3:evW 227 [tv k1 l1 s1 n1 e1,tv k2 l2 s2 n2 e2] []=oR (.bool b)),evW 142 [tv k1 l1 s1 n1 e1,tv k2 l2 s2 n2 e2] []=oR (.bool b)):=by
 refine⟨?_,?_,?_⟩<;>intros<;>rw [w142 rfl]<;>conv=>lhs;arg 2;whnf
 all_goals simp +contextual -implicitDefEqProofs (maxSteps:=9^9) only [↓wkA,↓lv142,↓fz142,wuH,↓reduceIte,xA,xB,xC,xD,xE,xF,reduceCtorEq,xH,xI,xJ,xK,xL,xM,xN,xO, *,wbr]
def run142x:=@run142xG.1
def run142y:=@run142xG.2.1
def run142z:=@run142xG.2.2
theorem run142T:∀(t u:TT),tSm t→evW 142 [tA t,tA u] []=oR (.bool (validT t&&(validT u&&sameT t u)))
 | .mk k l s L es,.mk k2 l2 s2 L2 es2,ht=>by
   have h1:=run94T (.mk k l s L es)
   have h2:=run94T (.mk k2 l2 s2 L2 es2)
   have h3:=run227T (.mk k l s L es) (.mk k2 l2 s2 L2 es2) ht
   rw [tA_mk] at h1 h2 h3 ⊢
   rw [tA_mk] at h3 ⊢
   cases v1:validT (.mk k l s L es) with
   | false=>rw [v1] at h1;exact run142x h1
   | true =>
     rw [v1] at h1
     cases v2:validT (.mk k2 l2 s2 L2 es2) with
     | false=>rw [v2] at h2;exact run142y h1 h2
     | true=>rw [v2] at h2;exact run142z h1 h2 (h3 v1 v2)
theorem loop38_0{k1 l1:Int}{s1:LU}{L1:LB}{es1:LA}{k2 l2:Int}{s2:LU}{L2:LB}{es2:LA}(hl:L1.length=L2.length)(hb:L1.length<4611686018427387904){k:KK}{X Y:OO}(h1:∀ fr hp nx,k .ret ⟨(4,.bool false)::fr,hp,nx,[]⟩=X)(h2:∀ fr nx,look 2 fr=some (.ptr 0 0)→look 3 fr=some (.ptr 1 0)→k (.exit 0) ⟨fr,[(0,.var 38 [iA k1,iA l1,.str s1,.sl 1 (L1.map sC),.sl 5 es1]),(1,.var 38 [iA k2,iA l2,.str s2,.sl 1 (L2.map sC),.sl 5 es2])],nx,[]⟩=Y) :
  ∀(rest:LB)(i:Nat) ,L1.drop i=rest→lpN ⟨76,0,kpOf 38,tb38⟩ (lp Tryz.f38 0) ⟨[(2,.ptr 0 0),(3,.ptr 1 0),(46,iA L1.length),(47,iA i)],[(0,.var 38 [iA k1,iA l1,.str s1,.sl 1 (L1.map sC),.sl 5 es1]),(1,.var 38 [iA k2,iA l2,.str s2,.sl 1 (L2.map sC),.sl 5 es2])],2,[]⟩ k=br (eqS rest (L2.drop i)) Y X
 | [],i,hd=>by
   have hi:=drop_ge hd
   unfold lpN
   conv=>lhs;arg 2;whnf
   simp +contextual -implicitDefEqProofs (maxSteps:=9^9) only [↓wkA,↓lv38,↓fz38,↓tbr38,wuH,↓reduceIte,xA,xB,xC,xD,xE,xF,reduceCtorEq,xH,xI,xJ,xK,xL,xM,xN,xO,hi,h1,h2,eqS,wbr]
 | b::rest,i,hd=>by
   have hi:=drop_lt hd
   have hbi:=drop_at hd
   have hd2:=drop_nx hd
   have hw:IntKind.i64.wrap ((i:Int)+1)=((i+1:Nat):Int):=wrap_succ (by simp at hi;omega)
   obtain⟨c,hc⟩:∃ c,L2[i]?=some c:=by
    simp at hi
    exact⟨_,List.getElem?_eq_getElem (by omega)⟩
   have hdc:L2.drop i=c::L2.drop (i+1):=by
    obtain⟨hlt,e⟩:=List.getElem?_eq_some_iff.1 hc
    rw [List.drop_eq_getElem_cons hlt,e]
   have ih:=loop38_0 hl hb h1 h2 rest (i+1) hd2
   unfold lpN
   conv=>lhs;arg 2;whnf
   simp +contextual -implicitDefEqProofs (maxSteps:=9^9) only [↓wkA,↓lv38,↓fz38,↓tbr38,wuH,↓reduceIte,xA,xB,xC,xD,xE,xF,reduceCtorEq,xH,xI,xJ,xK,xL,xM,xN,xO,hi,hw,hbi,map_get,lq38_0,h1,h2,hdc,eqS_cons,hc,ih,wbr]
theorem run38vG:(∀{k1 l1:Int}{s1:LU}{L1:LB}{es1:LA}{k2 l2:Int}{s2:LU}{L2:LB}{es2:LA}(v1:evW 96 [.agg [iA k1,iA l1,.str s1,.sl 1 (L1.map sC),.sl 5 es1]] []=oR (.bool false)),evW 38 [.agg [iA k1,iA l1,.str s1,.sl 1 (L1.map sC),.sl 5 es1],.agg [iA k2,iA l2,.str s2,.sl 1 (L2.map sC),.sl 5 es2]] []=oR (.bool false))∧(∀{k1 l1:Int}{s1:LU}{L1:LB}{es1:LA}{k2 l2:Int}{s2:LU}{L2:LB}{es2:LA}(v1:evW 96 [.agg [iA k1,iA l1,.str s1,.sl 1 (L1.map sC),.sl 5 es1]] []=oR (.bool true))(v2:evW 96 [.agg [iA k2,iA l2,.str s2,.sl 1 (L2.map sC),.sl 5 es2]] []=oR (.bool false)),evW 38 [.agg [iA k1,iA l1,.str s1,.sl 1 (L1.map sC),.sl 5 es1],.agg [iA k2,iA l2,.str s2,.sl 1 (L2.map sC),.sl 5 es2]] []=oR (.bool false))∧(∀{k1 l1:Int}{s1:LU}{L1:LB}{es1:LA}{k2 l2:Int}{s2:LU}{L2:LB}{es2:LA}(v1:evW 96 [.agg [iA k1,iA l1,.str s1,.sl 1 (L1.map sC),.sl 5 es1]] []=oR (.bool true))(v2:evW 96 [.agg [iA k2,iA l2,.str s2,.sl 1 (L2.map sC),.sl 5 es2]] []=oR (.bool true))(q0:(!(k1==k2))=true),evW 38 [.agg [iA k1,iA l1,.str s1,.sl 1 (L1.map sC),.sl 5 es1],.agg [iA k2,iA l2,.str s2,.sl 1 (L2.map sC),.sl 5 es2]] []=oR (.bool false))∧(∀{k1 l1:Int}{s1:LU}{L1:LB}{es1:LA}{k2 l2:Int}{s2:LU}{L2:LB}{es2:LA}(v1:evW 96 [.agg [iA k1,iA l1,.str s1,.sl 1 (L1.map sC),.sl 5 es1]] []=oR (.bool true))(v2:evW 96 [.agg [iA k2,iA l2,.str s2,.sl 1 (L2.map sC),.sl 5 es2]] []=oR (.bool true))(q0:(!(k1==k2))=false)(q1:(!(l1==l2))=true),evW 38 [.agg [iA k1,iA l1,.str s1,.sl 1 (L1.map sC),.sl 5 es1],.agg [iA k2,iA l2,.str s2,.sl 1 (L2.map sC),.sl 5 es2]] []=oR (.bool false))∧(∀{k1 l1:Int}{s1:LU}{L1:LB}{es1:LA}{k2 l2:Int}{s2:LU}{L2:LB}{es2:LA}(v1:evW 96 [.agg [iA k1,iA l1,.str s1,.sl 1 (L1.map sC),.sl 5 es1]] []=oR (.bool true))(v2:evW 96 [.agg [iA k2,iA l2,.str s2,.sl 1 (L2.map sC),.sl 5 es2]] []=oR (.bool true))(q0:(!(k1==k2))=false)(q1:(!(l1==l2))=false)(q2:(!(s1==s2))=true),evW 38 [.agg [iA k1,iA l1,.str s1,.sl 1 (L1.map sC),.sl 5 es1],.agg [iA k2,iA l2,.str s2,.sl 1 (L2.map sC),.sl 5 es2]] []=oR (.bool false))∧(∀{k1 l1:Int}{s1:LU}{L1:LB}{es1:LA}{k2 l2:Int}{s2:LU}{L2:LB}{es2:LA}(v1:evW 96 [.agg [iA k1,iA l1,.str s1,.sl 1 (L1.map sC),.sl 5 es1]] []=oR (.bool true))(v2:evW 96 [.agg [iA k2,iA l2,.str s2,.sl 1 (L2.map sC),.sl 5 es2]] []=oR (.bool true))(q0:(!(k1==k2))=false)(q1:(!(l1==l2))=false)(q2:(!(s1==s2))=false)(q3:(!(((L1.length:Nat):Int)==(L2.length:Nat)))=true),evW 38 [.agg [iA k1,iA l1,.str s1,.sl 1 (L1.map sC),.sl 5 es1],.agg [iA k2,iA l2,.str s2,.sl 1 (L2.map sC),.sl 5 es2]] []=oR (.bool false)):=by
 refine⟨?_,?_,?_,?_,?_,?_⟩<;>intros<;>rw [w38 rfl]<;>conv=>lhs;arg 2;whnf
 all_goals simp +contextual -implicitDefEqProofs (maxSteps:=9^9) only [↓wkA,↓lv38,↓fz38,↓tbr38,wuH,↓reduceIte,xA,xB,xC,xD,xE,xF,reduceCtorEq,xH,xI,xJ,xK,xL,xM,xN,xO, *,wbr]
def run38v:=@run38vG.1
def run38w:=@run38vG.2.1
def run38x0:=@run38vG.2.2.1
def run38x1:=@run38vG.2.2.2.1
def run38x2:=@run38vG.2.2.2.2.1
def run38x3:=@run38vG.2.2.2.2.2
theorem run38n{k1 l1:Int}{s1:LU}{L1:LB}{es1:LA}{k2 l2:Int}{s2:LU}{L2:LB}{es2:LA}(v1:evW 96 [.agg [iA k1,iA l1,.str s1,.sl 1 (L1.map sC),.sl 5 es1]] []=oR (.bool true))(v2:evW 96 [.agg [iA k2,iA l2,.str s2,.sl 1 (L2.map sC),.sl 5 es2]] []=oR (.bool true))(hk:(k1==6)=false)(q0:(!(k1==k2))=false)(q1:(!(l1==l2))=false)(q2:(!(s1==s2))=false)(q3:(!(((L1.length:Nat):Int)==(L2.length:Nat)))=false)(hb:L1.length<4611686018427387904):evW 38 [.agg [iA k1,iA l1,.str s1,.sl 1 (L1.map sC),.sl 5 es1],.agg [iA k2,iA l2,.str s2,.sl 1 (L2.map sC),.sl 5 es2]] []=oR (.bool (eqS L1 L2&&true)):=by
 have hl:L1.length=L2.length:=by simp at q3;omega
 rw [w38 rfl]
 conv=>lhs;arg 2;whnf
 simp +contextual -implicitDefEqProofs (maxSteps:=9^9) only [↓wkA,↓lv38,↓fz38,↓tbr38,wuH,↓reduceIte,xA,xB,xC,xD,xE,xF,reduceCtorEq,xH,xI,xJ,xK,xL,xM,xN,xO,v1,v2,q0,q1,q2,q3,wbr]
 refine(lpX_code (c':=lp Tryz.f38 0) (by kernel_rfl)).trans ?_
 rw [lq38_0]
 try simp +contextual -implicitDefEqProofs (maxSteps:=9^9) only [↓wkA,↓lv38,↓fz38,↓tbr38,wuH,↓reduceIte,xA,xB,xC,xD,xE,xF,reduceCtorEq,xH,xI,xJ,xK,xL,xM,xN,xO,v1,v2,q0,q1,q2,q3,wbr]
 refine(loop38_0 (X:=oR (.bool false)) (Y:=oR (.bool true)) hl hb ?_ ?_ L1 0 rfl).trans ?_
 ·intro fr hp nx
  simp +contextual -implicitDefEqProofs (maxSteps:=9^9) only [↓wkA,↓lv38,↓fz38,↓tbr38,wuH,↓reduceIte,xA,xB,xC,xD,xE,xF,reduceCtorEq,xH,xI,xJ,xK,xL,xM,xN,xO,wbr]
 ·intro fr nx e1 e2
  simp +contextual -implicitDefEqProofs (maxSteps:=9^9) only [↓wkA,↓lv38,↓fz38,↓tbr38,wuH,↓reduceIte,xA,xB,xC,xD,xE,xF,reduceCtorEq,xH,xI,xJ,xK,xL,xM,xN,xO,e1,e2,hk,wbr]
 rw [List.drop_zero]
 cases eqS L1 L2<;>rfl
theorem run38e{k1 l1:Int}{s1:LU}{L1:LB}{k2 l2:Int}{s2:LU}{L2:LB}{k3 l3:Int}{s3:LU}{L3:LB}{es3:LA}{k4 l4:Int}{s4:LU}{L4:LB}{es4:LA}(v1:evW 96 [.agg [iA k1,iA l1,.str s1,.sl 1 (L1.map sC),.sl 5 [[iA k3,iA l3,.str s3,.sl 1 (L3.map sC),.sl 5 es3]]]] []=oR (.bool true))(v2:evW 96 [.agg [iA k2,iA l2,.str s2,.sl 1 (L2.map sC),.sl 5 [[iA k4,iA l4,.str s4,.sl 1 (L4.map sC),.sl 5 es4]]]] []=oR (.bool true))(hk:(k1==6)=true){b:Bool}(he:evW 38 [.agg [iA k3,iA l3,.str s3,.sl 1 (L3.map sC),.sl 5 es3],.agg [iA k4,iA l4,.str s4,.sl 1 (L4.map sC),.sl 5 es4]] []=oR (.bool b))(q0:(!(k1==k2))=false)(q1:(!(l1==l2))=false)(q2:(!(s1==s2))=false)(q3:(!(((L1.length:Nat):Int)==(L2.length:Nat)))=false)(hb:L1.length<4611686018427387904):evW 38 [.agg [iA k1,iA l1,.str s1,.sl 1 (L1.map sC),.sl 5 [[iA k3,iA l3,.str s3,.sl 1 (L3.map sC),.sl 5 es3]]],.agg [iA k2,iA l2,.str s2,.sl 1 (L2.map sC),.sl 5 [[iA k4,iA l4,.str s4,.sl 1 (L4.map sC),.sl 5 es4]]]] []=oR (.bool (eqS L1 L2&&b)):=by
 have hl:L1.length=L2.length:=by simp at q3;omega
 rw [w38 rfl]
 conv=>lhs;arg 2;whnf
 simp +contextual -implicitDefEqProofs (maxSteps:=9^9) only [↓wkA,↓lv38,↓fz38,↓tbr38,wuH,↓reduceIte,xA,xB,xC,xD,xE,xF,reduceCtorEq,xH,xI,xJ,xK,xL,xM,xN,xO,v1,v2,q0,q1,q2,q3,wbr]
 refine(lpX_code (c':=lp Tryz.f38 0) (by kernel_rfl)).trans ?_
 rw [lq38_0]
 try simp +contextual -implicitDefEqProofs (maxSteps:=9^9) only [↓wkA,↓lv38,↓fz38,↓tbr38,wuH,↓reduceIte,xA,xB,xC,xD,xE,xF,reduceCtorEq,xH,xI,xJ,xK,xL,xM,xN,xO,v1,v2,q0,q1,q2,q3,wbr]
 refine(loop38_0 (X:=oR (.bool false)) (Y:=oR (.bool b)) hl hb ?_ ?_ L1 0 rfl).trans ?_
 ·intro fr hp nx
  simp +contextual -implicitDefEqProofs (maxSteps:=9^9) only [↓wkA,↓lv38,↓fz38,↓tbr38,wuH,↓reduceIte,xA,xB,xC,xD,xE,xF,reduceCtorEq,xH,xI,xJ,xK,xL,xM,xN,xO,wbr]
 ·intro fr nx e1 e2
  simp +contextual -implicitDefEqProofs (maxSteps:=9^9) only [↓wkA,↓lv38,↓fz38,↓tbr38,wuH,↓reduceIte,xA,xB,xC,xD,xE,xF,reduceCtorEq,xH,xI,xJ,xK,xL,xM,xN,xO,e1,e2,hk,he,wbr]
 rw [List.drop_zero]
 cases eqS L1 L2<;>rfl
theorem not_f{b:Bool}(h:(!b)=false):b=true:=by simpa using h
theorem not_t{b:Bool}(h:(!b)=true):b=false:=by simpa using h
theorem run38c{k1 l1:Int}{s1:LU}{L1:LB}{es1:LA}{k2 l2:Int}{s2:LU}{L2:LB}{es2:LA}(v1:evW 96 [.agg [iA k1,iA l1,.str s1,.sl 1 (L1.map sC),.sl 5 es1]] []=oR (.bool true))(v2:evW 96 [.agg [iA k2,iA l2,.str s2,.sl 1 (L2.map sC),.sl 5 es2]] []=oR (.bool true)){b:Bool}(hf:((!(k1==k2))=false)→((!(l1==l2))=false)→((!(s1==s2))=false)→((!(((L1.length:Nat):Int)==(L2.length:Nat)))=false)→evW 38 [.agg [iA k1,iA l1,.str s1,.sl 1 (L1.map sC),.sl 5 es1],.agg [iA k2,iA l2,.str s2,.sl 1 (L2.map sC),.sl 5 es2]] []=oR (.bool (eqS L1 L2&&b))) :
  evW 38 [.agg [iA k1,iA l1,.str s1,.sl 1 (L1.map sC),.sl 5 es1],.agg [iA k2,iA l2,.str s2,.sl 1 (L2.map sC),.sl 5 es2]] []=oR (.bool ((k1==k2)&&((l1==l2)&&((s1==s2)&&((L1==L2)&&b))))):=by
 cases q0:(!(k1==k2)) with
 | true=>rw [not_t q0];exact run38x0 v1 v2 q0
 | false =>
 cases q1:(!(l1==l2)) with
 | true=>rw [not_f q0,not_t q1];exact run38x1 v1 v2 q0 q1
 | false =>
 cases q2:(!(s1==s2)) with
 | true=>rw [not_f q0,not_f q1,not_t q2];exact run38x2 v1 v2 q0 q1 q2
 | false =>
 cases q3:(!(((L1.length:Nat):Int)==(L2.length:Nat))) with
 | true =>
   rw [not_f q0,not_f q1,not_f q2,ne_len (by have:=not_t q3;simp at this;omega)]
   exact run38x3 v1 v2 q0 q1 q2 q3
 | false =>
   rw [not_f q0,not_f q1,not_f q2,← eqS_eq L1 L2 (by have:=not_f q3;simp at this;omega)]
   exact hf q0 q1 q2 q3
theorem run38T:∀(t u:TT),tSm t→tSm u→evW 38 [tA t,tA u] []=oR (.bool (validT t&&(validT u&&sameT t u)))
 | .mk k l s L es,.mk k2 l2 s2 L2 es2,ht,hu=>by
   have v1:=run96T (.mk k l s L es) ht
   have v2:=run96T (.mk k2 l2 s2 L2 es2) hu
   rw [tA_mk] at v1 v2 ⊢
   rw [tA_mk]
   have hb:=ht
   rw [tSm] at hb
   cases h1:validT (.mk k l s L es) with
   | false=>rw [h1] at v1;exact run38v v1
   | true =>
     rw [h1] at v1
     cases h2:validT (.mk k2 l2 s2 L2 es2) with
     | false=>rw [h2] at v2;exact run38w v1 v2
     | true =>
       rw [h2] at v2
       match es,es2,ht,hu,h1,h2 with
       | [],[],_,_,h1,_ =>
         rw [sameT]
         exact run38c v1 v2 fun q0 q1 q2 q3=>run38n v1 v2 (valid_nil h1) q0 q1 q2 q3 (by omega)
       | [],[e],_,_,h1,h2 =>
         have hk:(k==k2)=false:=by
          rw [(valid_elem h2).1]
          exact valid_nil h1
         unfold sameT
         exact run38x0 v1 v2 (by rw [hk];rfl)
       | [e],[],_,_,h1,h2 =>
         have hk:(k==k2)=false:=by
          rw [(valid_elem h1).1]
          have:=valid_nil h2
          simp only [beq_eq_false_iff_ne,ne_eq] at this ⊢
          exact fun e=>this e.symm
         unfold sameT
         exact run38x0 v1 v2 (by rw [hk];rfl)
       | [.mk k3 l3 s3 L3 e3],[.mk k4 l4 s4 L4 e4],ht,hu,h1,h2 =>
         rw [tSm] at ht hu
         have ih:=run38T (.mk k3 l3 s3 L3 e3) (.mk k4 l4 s4 L4 e4) (ht.2.2.2 _ (List.mem_singleton.2 rfl)) (hu.2.2.2 _ (List.mem_singleton.2 rfl))
         rw [(valid_elem h1).2,(valid_elem h2).2,tA_mk,tA_mk] at ih
         simp only [List.map_cons,List.map_nil,tC_mk] at v1 v2 ⊢
         rw [sameT]
         exact run38c v1 v2 fun q0 q1 q2 q3=>run38e v1 v2 (by rw [(valid_elem h1).1];rfl) ih q0 q1 q2 q3 (by omega)
       | _::_::_,_,_,_,h1,_=>rw [valid_more] at h1;cases h1
       | _,_::_::_,_,_,_,h2=>rw [valid_more] at h2;cases h2
theorem vC_mk{k n:Int}{bs:LI}{ls:List VT}:vC (.mk k n bs ls)=[iA k,iA n,bitsA bs,.sl 4 (ls.map vC)]:=by
 rw [vC]
 rfl
theorem vA_mk{k n:Int}{bs:LI}{ls:List VT}:vA (.mk k n bs ls) = .agg [iA k,iA n,bitsA bs,.sl 4 (ls.map vC)]:=by
 unfold vA
 rw [vC_mk]
def vSm:VT→Prop
 | .mk _ _ bs ls=>bs.length≤9000∧ls.length≤9000∧(∀ b∈bs,(0:Int)≤b)∧∀ v∈ls,vSm v
theorem loop264_0{k1 l1:Int}{s1:LU}{L1:LB}{es1:LA}{ls:List VT}{g:Nat}{p:VT→Bool}(hg:∀ v∈ls,evW g [.agg (vC v),.ptr 0 0] [.var 38 [iA k1,iA l1,.str s1,.sl 1 (L1.map sC),.sl 5 es1]]=some (.ret (.bool (p v)),[.var 38 [iA k1,iA l1,.str s1,.sl 1 (L1.map sC),.sl 5 es1]]))(hb:ls.length<4611686018427387904){k:KK}{X:Int→OO}(h1:∀ (j:Nat) fr nx,k .ret ⟨(4,iA j)::fr,[(0,.var 38 [iA k1,iA l1,.str s1,.sl 1 (L1.map sC),.sl 5 es1]),(0,.var 38 [iA k1,iA l1,.str s1,.sl 1 (L1.map sC),.sl 5 es1])],nx,[]⟩=X j)(h2:∀ fr nx,k (.exit 0) ⟨fr,[(0,.var 38 [iA k1,iA l1,.str s1,.sl 1 (L1.map sC),.sl 5 es1])],nx,[]⟩=X (-1)) :
  ∀(rest:List VT)(i:Nat) ,ls.drop i=rest→lpN ⟨19,1,kpOf 264,noTab⟩ (lp Tryz.f264 0) ⟨[(0,.sl 4 (ls.map vC)),(1,.fn g [.ptr 0 0]),(7,iA ls.length),(8,iA i)],[(0,.var 38 [iA k1,iA l1,.str s1,.sl 1 (L1.map sC),.sl 5 es1])],1,[]⟩ k=X (firstFrom p i rest)
 | [],i,hd=>by
   have hi:=drop_ge hd
   unfold lpN
   conv=>lhs;arg 2;whnf
   simp +contextual -implicitDefEqProofs (maxSteps:=9^9) only [↓wkA,↓lv264,↓fz264,wuH,↓reduceIte,xA,xB,xC,xD,xE,xF,reduceCtorEq,xH,xI,xJ,xK,xL,xM,xN,xO,hi,h1,h2,firstFrom,wbr]
 | b::rest,i,hd=>by
   have hi:=drop_lt hd
   have hbi:=drop_at hd
   have hd2:=drop_nx hd
   have hw:IntKind.i64.wrap ((i:Int)+1)=((i+1:Nat):Int):=wrap_succ (by simp at hi;omega)
   have ih:=loop264_0 hg hb h1 h2 rest (i+1) hd2
   have hc:=hg b (List.mem_of_getElem? hbi)
   obtain⟨kb,nb,bb,lb⟩:=b
   rw [vC_mk] at hc
   unfold lpN
   conv=>lhs;arg 2;whnf
   simp +contextual -implicitDefEqProofs (maxSteps:=9^9) only [↓wkA,↓lv264,↓fz264,wuH,↓reduceIte,xA,xB,xC,xD,xE,xF,reduceCtorEq,xH,xI,xJ,xK,xL,xM,xN,xO,hi,hw,hbi,map_get,lq264_0,h1,h2,firstFrom,hc,ih,vC_mk,wbr]
theorem run264{k1 l1:Int}{s1:LU}{L1:LB}{es1:LA}{ls:List VT}{g:Nat}{p:VT→Bool}(hg:∀ v∈ls,evW g [.agg (vC v),.ptr 0 0] [.var 38 [iA k1,iA l1,.str s1,.sl 1 (L1.map sC),.sl 5 es1]]=some (.ret (.bool (p v)),[.var 38 [iA k1,iA l1,.str s1,.sl 1 (L1.map sC),.sl 5 es1]]))(hb:ls.length<4611686018427387904):evW 264 [.sl 4 (ls.map vC),.fn g [.ptr 0 0]] [.var 38 [iA k1,iA l1,.str s1,.sl 1 (L1.map sC),.sl 5 es1]]=some (.ret (iA (firstFrom p 0 ls)),[.var 38 [iA k1,iA l1,.str s1,.sl 1 (L1.map sC),.sl 5 es1]]):=by
 rw [w264 rfl]
 conv=>lhs;arg 2;whnf
 simp +contextual -implicitDefEqProofs (maxSteps:=9^9) only [↓wkA,↓lv264,↓fz264,wuH,↓reduceIte,xA,xB,xC,xD,xE,xF,reduceCtorEq,xH,xI,xJ,xK,xL,xM,xN,xO,wbr]
 refine(lpX_code (c':=lp Tryz.f264 0) (by kernel_rfl)).trans ?_
 rw [lq264_0]
 try simp +contextual -implicitDefEqProofs (maxSteps:=9^9) only [↓wkA,↓lv264,↓fz264,wuH,↓reduceIte,xA,xB,xC,xD,xE,xF,reduceCtorEq,xH,xI,xJ,xK,xL,xM,xN,xO,wbr]
 refine(loop264_0 (p:=p) (X:=fun z=>some (.ret (iA z),[.var 38 [iA k1,iA l1,.str s1,.sl 1 (L1.map sC),.sl 5 es1]])) hg hb ?_ ?_ ls 0 rfl).trans ?_
 ·intro j fr nx
  simp +contextual -implicitDefEqProofs (maxSteps:=9^9) only [↓wkA,↓lv264,↓fz264,wuH,↓reduceIte,xA,xB,xC,xD,xE,xF,reduceCtorEq,xH,xI,xJ,xK,xL,xM,xN,xO,wbr]
 ·intro fr nx
  simp +contextual -implicitDefEqProofs (maxSteps:=9^9) only [↓wkA,↓lv264,↓fz264,wuH,↓reduceIte,xA,xB,xC,xD,xE,xF,reduceCtorEq,xH,xI,xJ,xK,xL,xM,xN,xO,wbr]
 rfl
theorem run189{k1 l1:Int}{s1:LU}{L1:LB}{es1:LA}{ls:List VT}{g:Nat}{p:VT→Bool}(hg:∀ v∈ls,evW g [.agg (vC v),.ptr 0 0] [.var 38 [iA k1,iA l1,.str s1,.sl 1 (L1.map sC),.sl 5 es1]]=some (.ret (.bool (p v)),[.var 38 [iA k1,iA l1,.str s1,.sl 1 (L1.map sC),.sl 5 es1]]))(hb:ls.length<4611686018427387904):evW 189 [.sl 4 (ls.map vC),.fn g [.ptr 0 0]] [.var 38 [iA k1,iA l1,.str s1,.sl 1 (L1.map sC),.sl 5 es1]]=some (.ret (.bool (ls.any p)),[.var 38 [iA k1,iA l1,.str s1,.sl 1 (L1.map sC),.sl 5 es1]]):=by
 have h3:=run264 hg hb
 rw [w189 rfl]
 conv=>lhs;arg 2;whnf
 simp +contextual -implicitDefEqProofs (maxSteps:=9^9) only [↓wkA,↓lv189,↓fz189,wuH,↓reduceIte,xA,xB,xC,xD,xE,xF,reduceCtorEq,xH,xI,xJ,xK,xL,xM,xN,xO,h3,firstFrom_any,wbr]
theorem run190{k1 l1:Int}{s1:LU}{L1:LB}{k2 l2:Int}{s2:LU}{L2:LB}{es2:LA}{kv nv:Int}{bv:LI}{lv:LA}{b:Bool}(h:evW 95 [.agg [iA k2,iA l2,.str s2,.sl 1 (L2.map sC),.sl 5 es2],.agg [iA kv,iA nv,bitsA bv,.sl 4 lv]] []=oR (.bool b)):evW 190 [.agg [iA kv,iA nv,bitsA bv,.sl 4 lv],.ptr 0 0] [.var 38 [iA k1,iA l1,.str s1,.sl 1 (L1.map sC),.sl 5 [[iA k2,iA l2,.str s2,.sl 1 (L2.map sC),.sl 5 es2]]]]=some (.ret (.bool (!b)),[.var 38 [iA k1,iA l1,.str s1,.sl 1 (L1.map sC),.sl 5 [[iA k2,iA l2,.str s2,.sl 1 (L2.map sC),.sl 5 es2]]]]):=by
 rw [w190 rfl]
 conv=>lhs;arg 2;whnf
 simp +contextual -implicitDefEqProofs (maxSteps:=9^9) only [↓wkA,↓lv190,↓fz190,↓tbr190,wuH,↓reduceIte,xA,xB,xC,xD,xE,xF,reduceCtorEq,xH,xI,xJ,xK,xL,xM,xN,xO,h,wbr]
end Go.Proofs.YtdhcgankmhpgeaaGreat.M
