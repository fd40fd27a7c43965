import Derived.Test.YtdhcgankmhpgeaaGreatB16
set_option linter.all false
namespace Go.Proofs.YtdhcgankmhpgeaaGreat.M
open Go
open Nat renaming reduceEqDiff → xA, reduceLT → xB, reduceAdd → xC, reduceMul → xD, reduceSub → xE, reduceDiv → xF, reduceLeDiff → xN
open Int renaming reduceAdd → xH, reduceLE → xI, reduceLT → xJ, reduceToNat → xK, reduceEq → xL, reduceBEq → xM
open UInt8 renaming reduceToNat → xO
set_option maxRecDepth 100000
set_option maxHeartbeats 4000000
attribute [local congr] br_congr ob2_congr cnd_congr gdK_congr ob_congr clK_congr finK_congr reg_congr pkK_congr kTK_congr dlT_congr gck_congr iff2_congr sel_congr dPn_congr apJ_congr nmK_congr kTo_congr fzO_congr rcK_congr lvB_congr crK_congr cdB_congr
theorem run95x{k1 kv:Int}{l1:Int}{s1:LU}{L1:LB}{es1:LA}{nv:Int}{bv:LI}{lv:LA}(h:(kv==k1)=false):evW 95 [.agg [iA k1,iA l1,.str s1,.sl 1 (L1.map sC),.sl 5 es1],.agg [iA kv,iA nv,bitsA bv,.sl 4 lv]] []=oR (.bool false):=by
 rw [w95 rfl]
 conv=>lhs;arg 2;whnf
 simp +contextual -implicitDefEqProofs (maxSteps:=9^9) only [↓wkA,↓lv95,↓fz95,wuH,↓reduceIte,xA,xB,xC,xD,xE,xF,reduceCtorEq,xH,xI,xJ,xK,xL,xM,xN,xO,h,wbr]
theorem run95k1{l1:Int}{s1:LU}{L1:LB}{es1:LA}{nv:Int}{bv:LI}{lv:LA}{m:Int}(hm:mmD true [iA l1,iA 1]=some (iA m))(hb:bv.length<4611686018427387904):evW 95 [.agg [iA 1,iA l1,.str s1,.sl 1 (L1.map sC),.sl 5 es1],.agg [iA 1,iA nv,bitsA bv,.sl 4 lv]] []=oR (.bool (bareB false true false nv bv.length lv.length&&(isP bv&&(((bv.length:Nat):Int)==m)))):=by
 have h3:=run187ftf (k:=1) (n:=nv) (bs:=bv.map fun b=>[AV.int .u8 b]) (ls:=lv)
 rw [List.length_map] at h3
 change evW 187 [.agg [iA 1,iA nv,bitsA bv,.sl 4 lv],_,_,_] []=_ at h3
 have h4:=run188 hb
 rw [w95 rfl]
 conv=>lhs;arg 2;whnf
 simp +contextual -implicitDefEqProofs (maxSteps:=9^9) only [↓wkA,↓lv95,↓fz95,wuH,↓reduceIte,xA,xB,xC,xD,xE,xF,reduceCtorEq,xH,xI,xJ,xK,xL,xM,xN,xO,h3,h4,hm,wbr]
theorem run95k4{l1:Int}{s1:LU}{L1:LB}{es1:LA}{nv:Int}{bv:LI}{lv:LA}{m:Int}(hm:mmD true [iA l1,iA 1]=some (iA m))(hb:bv.length<4611686018427387904):evW 95 [.agg [iA 4,iA l1,.str s1,.sl 1 (L1.map sC),.sl 5 es1],.agg [iA 4,iA nv,bitsA bv,.sl 4 lv]] []=oR (.bool (bareB false true false nv bv.length lv.length&&(isP bv&&(((bv.length:Nat):Int)==m)))):=by
 have h3:=run187ftf (k:=4) (n:=nv) (bs:=bv.map fun b=>[AV.int .u8 b]) (ls:=lv)
 rw [List.length_map] at h3
 change evW 187 [.agg [iA 4,iA nv,bitsA bv,.sl 4 lv],_,_,_] []=_ at h3
 have h4:=run188 hb
 rw [w95 rfl]
 conv=>lhs;arg 2;whnf
 simp +contextual -implicitDefEqProofs (maxSteps:=9^9) only [↓wkA,↓lv95,↓fz95,wuH,↓reduceIte,xA,xB,xC,xD,xE,xF,reduceCtorEq,xH,xI,xJ,xK,xL,xM,xN,xO,h3,h4,hm,wbr]
theorem run95k2{l1:Int}{s1:LU}{L1:LB}{es1:LA}{nv:Int}{bv:LI}{lv:LA}:evW 95 [.agg [iA 2,iA l1,.str s1,.sl 1 (L1.map sC),.sl 5 es1],.agg [iA 2,iA nv,bitsA bv,.sl 4 lv]] []=oR (.bool (bareB true false false nv bv.length lv.length&&(nv==0||nv==1))):=by
 have h3:=run187tff (k:=2) (n:=nv) (bs:=bv.map fun b=>[AV.int .u8 b]) (ls:=lv)
 rw [List.length_map] at h3
 change evW 187 [.agg [iA 2,iA nv,bitsA bv,.sl 4 lv],_,_,_] []=_ at h3
 rw [w95 rfl]
 conv=>lhs;arg 2;whnf
 simp +contextual -implicitDefEqProofs (maxSteps:=9^9) only [↓wkA,↓lv95,↓fz95,wuH,↓reduceIte,xA,xB,xC,xD,xE,xF,reduceCtorEq,xH,xI,xJ,xK,xL,xM,xN,xO,h3,wbr]
theorem run95k3{l1:Int}{s1:LU}{L1:LB}{es1:LA}{nv:Int}{bv:LI}{lv:LA}:evW 95 [.agg [iA 3,iA l1,.str s1,.sl 1 (L1.map sC),.sl 5 es1],.agg [iA 3,iA nv,bitsA bv,.sl 4 lv]] []=oR (.bool (bareB true false false nv bv.length lv.length&&isI nv)):=by
 have h3:=run187tff (k:=3) (n:=nv) (bs:=bv.map fun b=>[AV.int .u8 b]) (ls:=lv)
 rw [List.length_map] at h3
 change evW 187 [.agg [iA 3,iA nv,bitsA bv,.sl 4 lv],_,_,_] []=_ at h3
 rw [w95 rfl]
 conv=>lhs;arg 2;whnf
 simp +contextual -implicitDefEqProofs (maxSteps:=9^9) only [↓wkA,↓lv95,↓fz95,wuH,↓reduceIte,xA,xB,xC,xD,xE,xF,reduceCtorEq,xH,xI,xJ,xK,xL,xM,xN,xO,h3,isI,wbr]
theorem run95k5{l1:Int}{s1:LU}{L1:LB}{es1:LA}{nv:Int}{bv:LI}{lv:LA}:evW 95 [.agg [iA 5,iA l1,.str s1,.sl 1 (L1.map sC),.sl 5 es1],.agg [iA 5,iA nv,bitsA bv,.sl 4 lv]] []=oR (.bool (bareB true false false nv bv.length lv.length&&(decide (0≤nv)&&decide (nv<(L1.length:Nat))))):=by
 have h3:=run187tff (k:=5) (n:=nv) (bs:=bv.map fun b=>[AV.int .u8 b]) (ls:=lv)
 rw [List.length_map] at h3
 change evW 187 [.agg [iA 5,iA nv,bitsA bv,.sl 4 lv],_,_,_] []=_ at h3
 rw [w95 rfl]
 conv=>lhs;arg 2;whnf
 simp +contextual -implicitDefEqProofs (maxSteps:=9^9) only [↓wkA,↓lv95,↓fz95,wuH,↓reduceIte,xA,xB,xC,xD,xE,xF,reduceCtorEq,xH,xI,xJ,xK,xL,xM,xN,xO,h3,wbr]
theorem run95k6{l1:Int}{s1:LU}{L1:LB}{k2 l2:Int}{s2:LU}{L2:LB}{es2:LA}{nv:Int}{bv:LI}{ls:List VT}{p:VT→Bool}(hg:∀ v∈ls,evW 95 [.agg [iA k2,iA l2,.str s2,.sl 1 (L2.map sC),.sl 5 es2],.agg (vC v)] []=oR (.bool (p v)))(hb:ls.length<4611686018427387904):evW 95 [.agg [iA 6,iA l1,.str s1,.sl 1 (L1.map sC),.sl 5 [[iA k2,iA l2,.str s2,.sl 1 (L2.map sC),.sl 5 es2]]],.agg [iA 6,iA nv,bitsA bv,.sl 4 (ls.map vC)]] []=oR (.bool (bareB false false true nv bv.length ls.length&&((((ls.length:Nat):Int)==l1) && !(ls.any fun v => !p v)))):=by
 have h3:=run187fft (k:=6) (n:=nv) (bs:=bv.map fun b=>[AV.int .u8 b]) (ls:=ls.map vC)
 rw [List.length_map,List.length_map] at h3
 change evW 187 [.agg [iA 6,iA nv,bitsA bv,.sl 4 (ls.map vC)],_,_,_] []=_ at h3
 have h5:=run189 (k1:=6) (l1:=l1) (s1:=s1) (L1:=L1) (es1:=[[iA k2,iA l2,.str s2,.sl 1 (L2.map sC),.sl 5 es2]]) (g:=190) (p:=fun v => !p v) (ls:=ls) (fun v hv=>by
  have:=hg v hv
  obtain⟨kb,nb,bb,lb⟩:=v
  rw [vC_mk] at this ⊢
  exact run190 this) hb
 rw [w95 rfl]
 conv=>lhs;arg 2;whnf
 simp +contextual -implicitDefEqProofs (maxSteps:=9^9) only [↓wkA,↓lv95,↓fz95,wuH,↓reduceIte,xA,xB,xC,xD,xE,xF,reduceCtorEq,xH,xI,xJ,xK,xL,xM,xN,xO,h3,h5,wbr]
theorem run34iG:(∀{k1 kv:Int}{l1:Int}{s1:LU}{L1:LB}{es1:LA}{nv:Int}{bv:LI}{lv:LA}(hv:evW 96 [.agg [iA k1,iA l1,.str s1,.sl 1 (L1.map sC),.sl 5 es1]] []=oR (.bool false)),evW 34 [.agg [iA k1,iA l1,.str s1,.sl 1 (L1.map sC),.sl 5 es1],.agg [iA kv,iA nv,bitsA bv,.sl 4 lv]] []=oR (.bool false))∧(∀{k1 kv:Int}{l1:Int}{s1:LU}{L1:LB}{es1:LA}{nv:Int}{bv:LI}{lv:LA}(hv:evW 96 [.agg [iA k1,iA l1,.str s1,.sl 1 (L1.map sC),.sl 5 es1]] []=oR (.bool true))(h:(kv==k1)=false),evW 34 [.agg [iA k1,iA l1,.str s1,.sl 1 (L1.map sC),.sl 5 es1],.agg [iA kv,iA nv,bitsA bv,.sl 4 lv]] []=oR (.bool false)):=by
 refine⟨?_,?_⟩<;>intros<;>rw [w34 rfl]<;>conv=>lhs;arg 2;whnf
 all_goals simp +contextual -implicitDefEqProofs (maxSteps:=9^9) only [↓wkA,↓lv34,↓fz34,↓tbr34,wuH,↓reduceIte,xA,xB,xC,xD,xE,xF,reduceCtorEq,xH,xI,xJ,xK,xL,xM,xN,xO, *,wbr]
def run34i:=@run34iG.1
def run34x:=@run34iG.2
theorem run34k1{l1:Int}{s1:LU}{L1:LB}{es1:LA}{nv:Int}{bv:LI}{lv:LA}(hv:evW 96 [.agg [iA 1,iA l1,.str s1,.sl 1 (L1.map sC),.sl 5 es1]] []=oR (.bool true))(hb:bv.length<4611686018427387904):evW 34 [.agg [iA 1,iA l1,.str s1,.sl 1 (L1.map sC),.sl 5 es1],.agg [iA 1,iA nv,bitsA bv,.sl 4 lv]] []=oR (.bool (nv==0&&(((bv.length:Nat):Int)==1&&((bv.all isBitB&&(decide ((1:Int)≤(bv.length:Nat))&&decide (((bv.length:Nat):Int)≤64)))&&((lv.length:Nat):Int)==0)))):=by
 have h97:=run97 hb
 have h98:=run98 (k:=nv)
 rw [w34 rfl]
 conv=>lhs;arg 2;whnf
 simp +contextual -implicitDefEqProofs (maxSteps:=9^9) only [↓wkA,↓lv34,↓fz34,↓tbr34,wuH,↓reduceIte,xA,xB,xC,xD,xE,xF,reduceCtorEq,xH,xI,xJ,xK,xL,xM,xN,xO,hv,h97,h98,wbr]
theorem run34k2{l1:Int}{s1:LU}{L1:LB}{es1:LA}{nv:Int}{bv:LI}{lv:LA}(hv:evW 96 [.agg [iA 2,iA l1,.str s1,.sl 1 (L1.map sC),.sl 5 es1]] []=oR (.bool true))(hb:bv.length<4611686018427387904):evW 34 [.agg [iA 2,iA l1,.str s1,.sl 1 (L1.map sC),.sl 5 es1],.agg [iA 2,iA nv,bitsA bv,.sl 4 lv]] []=oR (.bool ((nv==0||nv==1)&&(((bv.length:Nat):Int)==0&&((lv.length:Nat):Int)==0))):=by
 have h97:=run97 hb
 have h98:=run98 (k:=nv)
 rw [w34 rfl]
 conv=>lhs;arg 2;whnf
 simp +contextual -implicitDefEqProofs (maxSteps:=9^9) only [↓wkA,↓lv34,↓fz34,↓tbr34,wuH,↓reduceIte,xA,xB,xC,xD,xE,xF,reduceCtorEq,xH,xI,xJ,xK,xL,xM,xN,xO,hv,h97,h98,wbr]
theorem run34k3{l1:Int}{s1:LU}{L1:LB}{es1:LA}{nv:Int}{bv:LI}{lv:LA}(hv:evW 96 [.agg [iA 3,iA l1,.str s1,.sl 1 (L1.map sC),.sl 5 es1]] []=oR (.bool true))(hb:bv.length<4611686018427387904):evW 34 [.agg [iA 3,iA l1,.str s1,.sl 1 (L1.map sC),.sl 5 es1],.agg [iA 3,iA nv,bitsA bv,.sl 4 lv]] []=oR (.bool (isI nv&&(((bv.length:Nat):Int)==0&&((lv.length:Nat):Int)==0))):=by
 have h97:=run97 hb
 have h98:=run98 (k:=nv)
 rw [w34 rfl]
 conv=>lhs;arg 2;whnf
 simp +contextual -implicitDefEqProofs (maxSteps:=9^9) only [↓wkA,↓lv34,↓fz34,↓tbr34,wuH,↓reduceIte,xA,xB,xC,xD,xE,xF,reduceCtorEq,xH,xI,xJ,xK,xL,xM,xN,xO,hv,h97,h98,wbr]
theorem run34k4{l1:Int}{s1:LU}{L1:LB}{es1:LA}{nv:Int}{bv:LI}{lv:LA}(hv:evW 96 [.agg [iA 4,iA l1,.str s1,.sl 1 (L1.map sC),.sl 5 es1]] []=oR (.bool true))(hb:bv.length<4611686018427387904):evW 34 [.agg [iA 4,iA l1,.str s1,.sl 1 (L1.map sC),.sl 5 es1],.agg [iA 4,iA nv,bitsA bv,.sl 4 lv]] []=oR (.bool (nv==0&&(((bv.length:Nat):Int)==l1&&((bv.all isBitB&&(decide ((1:Int)≤(bv.length:Nat))&&decide (((bv.length:Nat):Int)≤64)))&&((lv.length:Nat):Int)==0)))):=by
 have h97:=run97 hb
 have h98:=run98 (k:=nv)
 rw [w34 rfl]
 conv=>lhs;arg 2;whnf
 simp +contextual -implicitDefEqProofs (maxSteps:=9^9) only [↓wkA,↓lv34,↓fz34,↓tbr34,wuH,↓reduceIte,xA,xB,xC,xD,xE,xF,reduceCtorEq,xH,xI,xJ,xK,xL,xM,xN,xO,hv,h97,h98,wbr]
theorem run34k5{l1:Int}{s1:LU}{L1:LB}{es1:LA}{nv:Int}{bv:LI}{lv:LA}(hv:evW 96 [.agg [iA 5,iA l1,.str s1,.sl 1 (L1.map sC),.sl 5 es1]] []=oR (.bool true))(hb:bv.length<4611686018427387904):evW 34 [.agg [iA 5,iA l1,.str s1,.sl 1 (L1.map sC),.sl 5 es1],.agg [iA 5,iA nv,bitsA bv,.sl 4 lv]] []=oR (.bool ((decide (0≤nv)&&decide (nv<(L1.length:Nat)))&&(((bv.length:Nat):Int)==0&&((lv.length:Nat):Int)==0))):=by
 have h97:=run97 hb
 have h98:=run98 (k:=nv)
 rw [w34 rfl]
 conv=>lhs;arg 2;whnf
 simp +contextual -implicitDefEqProofs (maxSteps:=9^9) only [↓wkA,↓lv34,↓fz34,↓tbr34,wuH,↓reduceIte,xA,xB,xC,xD,xE,xF,reduceCtorEq,xH,xI,xJ,xK,xL,xM,xN,xO,hv,h97,h98,wbr]
theorem loop34_0{l1:Int}{s1:LU}{L1:LB}{k2 l2:Int}{s2:LU}{L2:LB}{es2:LA}{ls:List VT}{p:VT→Bool}(hg:∀ v∈ls,evW 34 [.agg [iA k2,iA l2,.str s2,.sl 1 (L2.map sC),.sl 5 es2],.agg (vC v)] []=oR (.bool (p v)))(hb:ls.length<4611686018427387904){k:KK}{X Y:OO}(h1:∀ fr hp nx,k .ret ⟨(4,.bool false)::fr,hp,nx,[]⟩=X)(h2:∀ fr hp nx,k (.exit 1) ⟨fr,hp,nx,[]⟩=Y) :
  ∀(rest:List VT)(i:Nat) ,ls.drop i=rest→lpN ⟨161,0,kpOf 34,tb34⟩ (lp Tryz.f34 0) ⟨[(2,.ptr 0 0),(147,.sl 4 (ls.map vC)),(148,iA ls.length),(149,iA i)],[(0,.var 38 [iA 6,iA l1,.str s1,.sl 1 (L1.map sC),.sl 5 [[iA k2,iA l2,.str s2,.sl 1 (L2.map sC),.sl 5 es2]]])],1,[]⟩ k=br (rest.all p) Y X
 | [],i,hd=>by
   have hi:=drop_ge hd
   unfold lpN
   conv=>lhs;arg 2;whnf
   simp +contextual -implicitDefEqProofs (maxSteps:=9^9) only [↓wkA,↓lv34,↓fz34,↓tbr34,wuH,↓reduceIte,xA,xB,xC,xD,xE,xF,reduceCtorEq,xH,xI,xJ,xK,xL,xM,xN,xO,hi,h1,h2,List.all_nil,wbr]
 | b::rest,i,hd=>by
   have hi:=drop_lt hd
   have hbi:=drop_at hd
   have hd2:=drop_nx hd
   have hw:IntKind.i64.wrap ((i:Int)+1)=((i+1:Nat):Int):=wrap_succ (by simp at hi;omega)
   have ih:=loop34_0 (l1:=l1) (s1:=s1) (L1:=L1) hg hb h1 h2 rest (i+1) hd2
   have hc:=hg b (List.mem_of_getElem? hbi)
   obtain⟨kb,nb,bb,lb⟩:=b
   rw [vC_mk] at hc
   unfold lpN
   conv=>lhs;arg 2;whnf
   simp +contextual -implicitDefEqProofs (maxSteps:=9^9) only [↓wkA,↓lv34,↓fz34,↓tbr34,wuH,↓reduceIte,xA,xB,xC,xD,xE,xF,reduceCtorEq,xH,xI,xJ,xK,xL,xM,xN,xO,hi,hw,hbi,map_get,lq34_0,h1,h2,List.all_cons,hc,ih,vC_mk,wbr]
theorem run34x0G:(∀{l1:Int}{s1:LU}{L1:LB}{k2 l2:Int}{s2:LU}{L2:LB}{es2:LA}{ls:List VT}{p:VT→Bool}(hg:∀ v∈ls,evW 34 [.agg [iA k2,iA l2,.str s2,.sl 1 (L2.map sC),.sl 5 es2],.agg (vC v)] []=oR (.bool (p v))){nv:Int}{bv:LI}(hb:ls.length<4611686018427387904)(hv:evW 96 [.agg [iA 6,iA l1,.str s1,.sl 1 (L1.map sC),.sl 5 [[iA k2,iA l2,.str s2,.sl 1 (L2.map sC),.sl 5 es2]]]] []=oR (.bool true))(q0:(!(nv==0))=true),evW 34 [.agg [iA 6,iA l1,.str s1,.sl 1 (L1.map sC),.sl 5 [[iA k2,iA l2,.str s2,.sl 1 (L2.map sC),.sl 5 es2]]],.agg [iA 6,iA nv,bitsA bv,.sl 4 (ls.map vC)]] []=oR (.bool false))∧(∀{l1:Int}{s1:LU}{L1:LB}{k2 l2:Int}{s2:LU}{L2:LB}{es2:LA}{ls:List VT}{p:VT→Bool}(hg:∀ v∈ls,evW 34 [.agg [iA k2,iA l2,.str s2,.sl 1 (L2.map sC),.sl 5 es2],.agg (vC v)] []=oR (.bool (p v))){nv:Int}{bv:LI}(hb:ls.length<4611686018427387904)(hv:evW 96 [.agg [iA 6,iA l1,.str s1,.sl 1 (L1.map sC),.sl 5 [[iA k2,iA l2,.str s2,.sl 1 (L2.map sC),.sl 5 es2]]]] []=oR (.bool true))(q0:(!(nv==0))=false)(q1:(!(((bv.length:Nat):Int)==0))=true),evW 34 [.agg [iA 6,iA l1,.str s1,.sl 1 (L1.map sC),.sl 5 [[iA k2,iA l2,.str s2,.sl 1 (L2.map sC),.sl 5 es2]]],.agg [iA 6,iA nv,bitsA bv,.sl 4 (ls.map vC)]] []=oR (.bool false))∧(∀{l1:Int}{s1:LU}{L1:LB}{k2 l2:Int}{s2:LU}{L2:LB}{es2:LA}{ls:List VT}{p:VT→Bool}(hg:∀ v∈ls,evW 34 [.agg [iA k2,iA l2,.str s2,.sl 1 (L2.map sC),.sl 5 es2],.agg (vC v)] []=oR (.bool (p v))){nv:Int}{bv:LI}(hb:ls.length<4611686018427387904)(hv:evW 96 [.agg [iA 6,iA l1,.str s1,.sl 1 (L1.map sC),.sl 5 [[iA k2,iA l2,.str s2,.sl 1 (L2.map sC),.sl 5 es2]]]] []=oR (.bool true))(q0:(!(nv==0))=false)(q1:(!(((bv.length:Nat):Int)==0))=false)(q2:(!(((ls.length:Nat):Int)==l1))=true),evW 34 [.agg [iA 6,iA l1,.str s1,.sl 1 (L1.map sC),.sl 5 [[iA k2,iA l2,.str s2,.sl 1 (L2.map sC),.sl 5 es2]]],.agg [iA 6,iA nv,bitsA bv,.sl 4 (ls.map vC)]] []=oR (.bool false)):=by
 refine⟨?_,?_,?_⟩<;>intros<;>rw [w34 rfl]<;>conv=>lhs;arg 2;whnf
 all_goals simp +contextual -implicitDefEqProofs (maxSteps:=9^9) only [↓wkA,↓lv34,↓fz34,↓tbr34,wuH,↓reduceIte,xA,xB,xC,xD,xE,xF,reduceCtorEq,xH,xI,xJ,xK,xL,xM,xN,xO, *,wbr]
def run34x0:=@run34x0G.1
def run34x1:=@run34x0G.2.1
def run34x2:=@run34x0G.2.2
theorem run34a{l1:Int}{s1:LU}{L1:LB}{k2 l2:Int}{s2:LU}{L2:LB}{es2:LA}{ls:List VT}{p:VT→Bool}(hg:∀ v∈ls,evW 34 [.agg [iA k2,iA l2,.str s2,.sl 1 (L2.map sC),.sl 5 es2],.agg (vC v)] []=oR (.bool (p v))){nv:Int}{bv:LI}(hb:ls.length<4611686018427387904)(hv:evW 96 [.agg [iA 6,iA l1,.str s1,.sl 1 (L1.map sC),.sl 5 [[iA k2,iA l2,.str s2,.sl 1 (L2.map sC),.sl 5 es2]]]] []=oR (.bool true))(q0:(!(nv==0))=false)(q1:(!(((bv.length:Nat):Int)==0))=false)(q2:(!(((ls.length:Nat):Int)==l1))=false):evW 34 [.agg [iA 6,iA l1,.str s1,.sl 1 (L1.map sC),.sl 5 [[iA k2,iA l2,.str s2,.sl 1 (L2.map sC),.sl 5 es2]]],.agg [iA 6,iA nv,bitsA bv,.sl 4 (ls.map vC)]] []=oR (.bool (ls.all p)):=by
 rw [w34 rfl]
 conv=>lhs;arg 2;whnf
 simp +contextual -implicitDefEqProofs (maxSteps:=9^9) only [↓wkA,↓lv34,↓fz34,↓tbr34,wuH,↓reduceIte,xA,xB,xC,xD,xE,xF,reduceCtorEq,xH,xI,xJ,xK,xL,xM,xN,xO,hv,q0,q1,q2,wbr]
 refine(lpX_code (c':=lp Tryz.f34 0) (by kernel_rfl)).trans ?_
 rw [lq34_0]
 try simp +contextual -implicitDefEqProofs (maxSteps:=9^9) only [↓wkA,↓lv34,↓fz34,↓tbr34,wuH,↓reduceIte,xA,xB,xC,xD,xE,xF,reduceCtorEq,xH,xI,xJ,xK,xL,xM,xN,xO,hv,q0,q1,q2,wbr]
 refine(loop34_0 (l1:=l1) (s1:=s1) (L1:=L1) (p:=p) (X:=oR (.bool false)) (Y:=oR (.bool true)) hg hb ?_ ?_ ls 0 rfl).trans ?_
 ·intro fr hp nx
  simp +contextual -implicitDefEqProofs (maxSteps:=9^9) only [↓wkA,↓lv34,↓fz34,↓tbr34,wuH,↓reduceIte,xA,xB,xC,xD,xE,xF,reduceCtorEq,xH,xI,xJ,xK,xL,xM,xN,xO,wbr]
 ·intro fr hp nx
  simp +contextual -implicitDefEqProofs (maxSteps:=9^9) only [↓wkA,↓lv34,↓fz34,↓tbr34,wuH,↓reduceIte,xA,xB,xC,xD,xE,xF,reduceCtorEq,xH,xI,xJ,xK,xL,xM,xN,xO,wbr]
 cases ls.all p<;>rfl
theorem run34k6{l1:Int}{s1:LU}{L1:LB}{k2 l2:Int}{s2:LU}{L2:LB}{es2:LA}{ls:List VT}{p:VT→Bool}(hg:∀ v∈ls,evW 34 [.agg [iA k2,iA l2,.str s2,.sl 1 (L2.map sC),.sl 5 es2],.agg (vC v)] []=oR (.bool (p v))){nv:Int}{bv:LI}(hb:ls.length<4611686018427387904)(hv:evW 96 [.agg [iA 6,iA l1,.str s1,.sl 1 (L1.map sC),.sl 5 [[iA k2,iA l2,.str s2,.sl 1 (L2.map sC),.sl 5 es2]]]] []=oR (.bool true)):evW 34 [.agg [iA 6,iA l1,.str s1,.sl 1 (L1.map sC),.sl 5 [[iA k2,iA l2,.str s2,.sl 1 (L2.map sC),.sl 5 es2]]],.agg [iA 6,iA nv,bitsA bv,.sl 4 (ls.map vC)]] []=oR (.bool (nv==0&&(((bv.length:Nat):Int)==0&&((((ls.length:Nat):Int)==l1)&&ls.all p)))):=by
 cases q0:(!(nv==0)) with
 | true=>rw [not_t q0];exact run34x0 hg hb hv q0
 | false =>
 cases q1:(!(((bv.length:Nat):Int)==0)) with
 | true=>rw [not_f q0,not_t q1];exact run34x1 hg hb hv q0 q1
 | false =>
 cases q2:(!(((ls.length:Nat):Int)==l1)) with
 | true=>rw [not_f q0,not_f q1,not_t q2];exact run34x2 hg hb hv q0 q1 q2
 | false =>
   rw [not_f q0,not_f q1,not_f q2]
   exact run34a hg hb hv q0 q1 q2
def has0(k l:Int)(n:Nat)(nv:Int)(bv:LI)(m:Nat):Bool :=
 if k==1 then bareB false true false nv bv.length m&&(isP bv&&(((bv.length:Nat):Int)==1))
 else if k==4 then bareB false true false nv bv.length m&&(isP bv&&(((bv.length:Nat):Int)==l))
 else if k==2 then bareB true false false nv bv.length m&&(nv==0||nv==1)
 else if k==3 then bareB true false false nv bv.length m&&isI nv
 else bareB true false false nv bv.length m&&(decide (0≤nv)&&decide (nv<(n:Nat)))
def hasT:TT→VT→Bool
 | .mk k l s L [e],.mk kv nv bv ls=>(kv==k)&&(bareB false false true nv bv.length ls.length&&((((ls.length:Nat):Int)==l)&&ls.all fun v=>hasT e v))
 | .mk k l s L _,.mk kv nv bv ls=>(kv==k)&&has0 k l L.length nv bv ls.length
theorem isP_eq{bs:LI}(h:∀ b∈bs,(0:Int)≤b):(bs.all isBitB&&(decide ((1:Int)≤(bs.length:Nat))&&decide (((bs.length:Nat):Int)≤64)))=isP bs:=by
 have e:(bs.all isBitB) = !(bs.any fun b => !decide (b≤3)):=by
  induction bs with
  | nil=>rfl
  | cons b r ih =>
    rw [List.all_cons,List.any_cons,ih fun x hx=>h x (List.mem_cons_of_mem _ hx)]
    have hb:=h b (List.mem_cons_self ..)
    have:isBitB b=decide (b≤3):=by
     unfold isBitB
     rw [Bool.eq_iff_iff]
     simp only [Bool.or_eq_true,beq_iff_eq,decide_eq_true_eq]
     omega
    rw [this]
    cases decide (b≤3)<;>simp
 unfold isP
 rw [e]
 cases decide ((1:Int)≤(bs.length:Nat))<;>cases decide (((bs.length:Nat):Int)≤64)<;>simp
theorem hasT_nil{k l kv nv:Int}{s:LU}{L:LB}{bv:LI}{ls:List VT}:hasT (.mk k l s L []) (.mk kv nv bv ls)=((kv==k)&&has0 k l L.length nv bv ls.length):=by
 rw [hasT]
 intro e h
 cases h
theorem val_1{l:Int}{s:LU}{L:LB}(h:validT (.mk 1 l s L [])=true):l=0:=by
 rw [validT] at h
 simp [valid0,plainB] at h
 exact h.1
theorem val_4{l:Int}{s:LU}{L:LB}(h:validT (.mk 4 l s L [])=true):1≤l∧l≤64:=by
 rw [validT] at h
 simp [valid0,plainB] at h
 exact h.2
theorem val_k{k l:Int}{s:LU}{L:LB}(h:validT (.mk k l s L [])=true):k=1∨k=2∨k=3∨k=4∨k=5:=by
 rw [validT] at h
 by_cases h1:k=1<;>by_cases h2:k=2<;>by_cases h3:k=3<;>by_cases h4:k=4<;>by_cases h5:k=5<;>simp_all [valid0]
theorem run95T:∀(t:TT)(v:VT),vSm v→validT t=true→evW 95 [tA t,vA v] []=oR (.bool (hasT t v))
 | .mk k l s L (a::b::r),_,_,h=>by rw [valid_more] at h;cases h
 | .mk k l s L [],.mk kv nv bv ls,hv,h=>by
   rw [vSm] at hv
   rw [tA_mk,vA_mk,hasT_nil]
   cases hk:(kv==k) with
   | false=>exact run95x hk
   | true =>
     have:=eq_of_beq hk
     subst this
     rcases val_k h with h1|h1|h1|h1|h1
     ·subst h1
      have:=run95k1 (l1:=l) (s1:=s) (L1:=L) (es1:=[]) (nv:=nv) (bv:=bv) (lv:=ls.map vC) (m:=1) (by rw [val_1 h,mmT2];rfl) (by omega)
      rw [List.length_map] at this
      exact this
     ·subst h1
      have:=run95k2 (l1:=l) (s1:=s) (L1:=L) (es1:=[]) (nv:=nv) (bv:=bv) (lv:=ls.map vC)
      rw [List.length_map] at this
      exact this
     ·subst h1
      have:=run95k3 (l1:=l) (s1:=s) (L1:=L) (es1:=[]) (nv:=nv) (bv:=bv) (lv:=ls.map vC)
      rw [List.length_map] at this
      exact this
     ·subst h1
      have:=run95k4 (l1:=l) (s1:=s) (L1:=L) (es1:=[]) (nv:=nv) (bv:=bv) (lv:=ls.map vC) (m:=l) (by rw [mmT2,if_neg (by have:=val_4 h;omega)]) (by omega)
      rw [List.length_map] at this
      exact this
     ·subst h1
      have:=run95k5 (l1:=l) (s1:=s) (L1:=L) (es1:=[]) (nv:=nv) (bv:=bv) (lv:=ls.map vC)
      rw [List.length_map] at this
      exact this
 | .mk k l s L [.mk k2 l2 s2 L2 e2],.mk kv nv bv ls,hv,h=>by
   rw [vSm] at hv
   have hg:∀ v∈ls,evW 95 [tA (.mk k2 l2 s2 L2 e2),vA v] []=oR (.bool (hasT (.mk k2 l2 s2 L2 e2) v)):=fun v hm=>run95T _ v (hv.2.2.2 v hm) (valid_elem h).2
   rw [tA_mk] at hg
   rw [tA_mk,vA_mk,hasT]
   cases hk:(kv==k) with
   | false=>exact run95x hk
   | true =>
     have:=eq_of_beq hk
     subst this
     obtain rfl:=(valid_elem h).1
     rw [List.map_cons,List.map_nil,tC_mk]
     refine(run95k6 (p:=fun v=>hasT (.mk k2 l2 s2 L2 e2) v) hg (by omega)).trans ?_
     rw [show (ls.any fun v => !hasT (.mk k2 l2 s2 L2 e2) v) = !(ls.all fun v=>hasT (.mk k2 l2 s2 L2 e2) v) by rw [List.all_eq_not_any_not,Bool.not_not],Bool.not_not]
     rfl
theorem run32xG:(∀{k l kv nv:Int}{s:LU}{n e lv:LA}{bv:LI}(h1:evW 94 [tv k l s n e] []=oR (.bool false)),evW 32 [tv k l s n e,.agg [iA kv,iA nv,bitsA bv,.sl 4 lv]] []=oR (.bool false))∧(∀{k l kv nv:Int}{s:LU}{n e lv:LA}{bv:LI}{b:Bool}(h1:evW 94 [tv k l s n e] []=oR (.bool true))(h2:evW 95 [tv k l s n e,.agg [iA kv,iA nv,bitsA bv,.sl 4 lv]] []=oR (.bool b)),evW 32 [tv k l s n e,.agg [iA kv,iA nv,bitsA bv,.sl 4 lv]] []=oR (.bool b)):=by
 refine⟨?_,?_⟩<;>intros<;>rw [w32 rfl]<;>conv=>lhs;arg 2;whnf
 all_goals simp +contextual -implicitDefEqProofs (maxSteps:=9^9) only [↓wkA,↓lv32,↓fz32,wuH,↓reduceIte,xA,xB,xC,xD,xE,xF,reduceCtorEq,xH,xI,xJ,xK,xL,xM,xN,xO, *,wbr]
def run32x:=@run32xG.1
def run32y:=@run32xG.2
theorem run32T:∀(t:TT)(v:VT),vSm v→evW 32 [tA t,vA v] []=oR (.bool (validT t&&hasT t v))
 | .mk k l s L es,.mk kv nv bv ls,hv=>by
   have h1:=run94T (.mk k l s L es)
   have h2:=run95T (.mk k l s L es) (.mk kv nv bv ls) hv
   rw [tA_mk] at h1 h2 ⊢
   rw [vA_mk] at h2 ⊢
   cases v1:validT (.mk k l s L es) with
   | false=>rw [v1] at h1;exact run32x h1
   | true=>rw [v1] at h1;exact run32y h1 (h2 v1)
theorem has34{l nv:Int}{bv:LI}{m:Nat}(h:∀ b∈bv,(0:Int)≤b) :
  (nv==0&&(((bv.length:Nat):Int)==l&&((bv.all isBitB&&(decide ((1:Int)≤(bv.length:Nat))&&decide (((bv.length:Nat):Int)≤64)))&&((m:Nat):Int)==0))) =
  (bareB false true false nv bv.length m&&(isP bv&&(((bv.length:Nat):Int)==l))):=by
 rw [isP_eq h]
 unfold bareB
 cases (nv==0)<;>cases isP bv<;>cases (((bv.length:Nat):Int)==l)<;>cases (((m:Nat):Int)==0)<;>rfl
theorem has34b{nv:Int}{bv:LI}{m:Nat}{c:Bool} :
  (c&&(((bv.length:Nat):Int)==0&&((m:Nat):Int)==0))=(bareB true false false nv bv.length m&&c):=by
 unfold bareB
 cases c<;>cases (((bv.length:Nat):Int)==0)<;>cases (((m:Nat):Int)==0)<;>rfl
theorem run34T:∀(t:TT)(v:VT),tSm t→vSm v→evW 34 [tA t,vA v] []=oR (.bool (validT t&&hasT t v))
 | .mk k l s L es,.mk kv nv bv ls,ht,hv=>by
   have h1:=run96T (.mk k l s L es) ht
   rw [tA_mk] at h1 ⊢
   rw [vA_mk]
   rw [vSm] at hv
   cases v1:validT (.mk k l s L es) with
   | false=>rw [v1] at h1;exact run34i h1
   | true =>
     rw [v1] at h1
     rw [Bool.true_and]
     match es,ht,v1 with
     | _::_::_,_,h=>rw [valid_more] at h;cases h
     | [],ht,h =>
       rw [hasT_nil]
       cases hk:(kv==k) with
       | false=>exact run34x h1 hk
       | true =>
         have:=eq_of_beq hk
         subst this
         have hb:bv.length<4611686018427387904:=by omega
         rcases val_k h with e|e|e|e|e
         ·subst e
          have:=run34k1 (nv:=nv) (bv:=bv) (lv:=ls.map vC) h1 hb
          rw [List.length_map,has34 hv.2.2.1] at this
          exact this
         ·subst e
          have:=run34k2 (nv:=nv) (bv:=bv) (lv:=ls.map vC) h1 hb
          rw [List.length_map,has34b (nv:=nv)] at this
          exact this
         ·subst e
          have:=run34k3 (nv:=nv) (bv:=bv) (lv:=ls.map vC) h1 hb
          rw [List.length_map,has34b (nv:=nv)] at this
          exact this
         ·subst e
          have:=run34k4 (nv:=nv) (bv:=bv) (lv:=ls.map vC) h1 hb
          rw [List.length_map,has34 hv.2.2.1] at this
          exact this
         ·subst e
          have:=run34k5 (nv:=nv) (bv:=bv) (lv:=ls.map vC) h1 hb
          rw [List.length_map,has34b (nv:=nv)] at this
          exact this
     | [.mk k2 l2 s2 L2 e2],ht,h =>
       rw [tSm] at ht
       have hg:∀ v∈ls,evW 34 [tA (.mk k2 l2 s2 L2 e2),vA v] []=oR (.bool (hasT (.mk k2 l2 s2 L2 e2) v)):=fun v hm=>by
        have:=run34T (.mk k2 l2 s2 L2 e2) v (ht.2.2.2 _ (List.mem_singleton.2 rfl)) (hv.2.2.2 v hm)
        rwa [(valid_elem h).2,Bool.true_and] at this
       rw [tA_mk] at hg
       rw [hasT]
       simp only [List.map_cons,List.map_nil,tC_mk] at h1 ⊢
       cases hk:(kv==k) with
       | false=>exact run34x h1 hk
       | true =>
         have:=eq_of_beq hk
         subst this
         obtain rfl:=(valid_elem h).1
         refine(run34k6 (p:=fun v=>hasT (.mk k2 l2 s2 L2 e2) v) (nv:=nv) (bv:=bv) hg (by omega) h1).trans ?_
         unfold bareB
         cases (nv==0)<;>cases (((bv.length:Nat):Int)==0)<;>rfl
def all2(p:TT→VT→Bool):List TT→List VT→Bool
 | [],_=>true
 | t::r,v::s=>p t v&&all2 p r s
 | _::_,[]=>false
theorem all2_cons{p:TT→VT→Bool}{t:TT}{v:VT}{r:List TT}{s:List VT}:all2 p (t::r) (v::s)=(p t v&&all2 p r s):=rfl
theorem loop65_0{ts:List TT}{vs:List VT}{p:TT→VT→Bool}(hg:∀ t v,v∈vs→evW 32 [tA t,vA v] []=oR (.bool (p t v)))(hl:ts.length=vs.length)(hb:ts.length<4611686018427387904){k:KK}{X Y:OO}(h1:∀ fr hp nx,k .ret ⟨(6,.bool false)::fr,hp,nx,[]⟩=X)(h2:∀ fr hp nx,k (.exit 0) ⟨fr,hp,nx,[]⟩=Y) :
  ∀(rest:List TT)(i:Nat) ,ts.drop i=rest→lpN ⟨32,0,kpOf 65,noTab⟩ (lp Tryz.f65 0) ⟨[(1,.sl 4 (vs.map vC)),(2,.fn 32 []),(15,.sl 5 (ts.map tC)),(16,iA ts.length),(17,iA i)],[],0,[]⟩ k=br (all2 p rest (vs.drop i)) Y X
 | [],i,hd=>by
   have hi:=drop_ge hd
   unfold lpN
   conv=>lhs;arg 2;whnf
   simp +contextual -implicitDefEqProofs (maxSteps:=9^9) only [↓wkA,↓lv65,↓fz65,wuH,↓reduceIte,xA,xB,xC,xD,xE,xF,reduceCtorEq,xH,xI,xJ,xK,xL,xM,xN,xO,hi,h1,h2,all2,wbr]
 | b::rest,i,hd=>by
   have hi:=drop_lt hd
   have hbi:=drop_at hd
   have hd2:=drop_nx hd
   have hw:IntKind.i64.wrap ((i:Int)+1)=((i+1:Nat):Int):=wrap_succ (by simp at hi;omega)
   obtain⟨c,hc⟩:∃ c,vs[i]?=some c:=by
    simp at hi
    exact⟨_,List.getElem?_eq_getElem (by omega)⟩
   have hdc:vs.drop i=c::vs.drop (i+1):=by
    obtain⟨hlt,e⟩:=List.getElem?_eq_some_iff.1 hc
    rw [List.drop_eq_getElem_cons hlt,e]
   have ih:=loop65_0 hg hl hb h1 h2 rest (i+1) hd2
   have hq:=hg b c (List.mem_of_getElem? hc)
   obtain⟨k1,l1,s1,L1,e1⟩:=b
   obtain⟨k2,n2,b2,e2⟩:=c
   rw [tA_mk,vA_mk] at hq
   unfold lpN
   conv=>lhs;arg 2;whnf
   simp +contextual -implicitDefEqProofs (maxSteps:=9^9) only [↓wkA,↓lv65,↓fz65,wuH,↓reduceIte,xA,xB,xC,xD,xE,xF,reduceCtorEq,xH,xI,xJ,xK,xL,xM,xN,xO,hi,hw,hbi,map_get,lq65_0,h1,h2,hdc,all2_cons,hc,ih,hq,tC_mk,vC_mk,wbr]
theorem run65T{ts:List TT}{vs:List VT}{p:TT→VT→Bool}(hg:∀ t v,v∈vs→evW 32 [tA t,vA v] []=oR (.bool (p t v)))(hb:ts.length<4611686018427387904):evW 65 [.sl 5 (ts.map tC),.sl 4 (vs.map vC),.fn 32 []] []=oR (.bool ((((ts.length:Nat):Int)==(vs.length:Nat))&&all2 p ts vs)):=by
 by_cases hl:ts.length=vs.length
 ·have hl2:(((ts.length:Nat):Int)==(vs.length:Nat))=true:=by simp;omega
  rw [hl2,Bool.true_and]
  rw [w65 rfl]
  conv=>lhs;arg 2;whnf
  simp +contextual -implicitDefEqProofs (maxSteps:=9^9) only [↓wkA,↓lv65,↓fz65,wuH,↓reduceIte,xA,xB,xC,xD,xE,xF,reduceCtorEq,xH,xI,xJ,xK,xL,xM,xN,xO,hl2,wbr]
  refine(lpX_code (c':=lp Tryz.f65 0) (by kernel_rfl)).trans ?_
  rw [lq65_0]
  try simp +contextual -implicitDefEqProofs (maxSteps:=9^9) only [↓wkA,↓lv65,↓fz65,wuH,↓reduceIte,xA,xB,xC,xD,xE,xF,reduceCtorEq,xH,xI,xJ,xK,xL,xM,xN,xO,hl2,wbr]
  refine(loop65_0 hg (X:=oR (.bool false)) (Y:=oR (.bool true)) hl hb ?_ ?_ ts 0 rfl).trans ?_
  ·intro fr hp nx
   simp +contextual -implicitDefEqProofs (maxSteps:=9^9) only [↓wkA,↓lv65,↓fz65,wuH,↓reduceIte,xA,xB,xC,xD,xE,xF,reduceCtorEq,xH,xI,xJ,xK,xL,xM,xN,xO,wbr]
  ·intro fr hp nx
   simp +contextual -implicitDefEqProofs (maxSteps:=9^9) only [↓wkA,↓lv65,↓fz65,wuH,↓reduceIte,xA,xB,xC,xD,xE,xF,reduceCtorEq,xH,xI,xJ,xK,xL,xM,xN,xO,wbr]
  ·rw [List.drop_zero]
   cases all2 p ts vs<;>rfl
 ·have hl2:(((ts.length:Nat):Int)==(vs.length:Nat))=false:=by simp;omega
  rw [hl2,Bool.false_and]
  rw [w65 rfl]
  conv=>lhs;arg 2;whnf
  simp +contextual -implicitDefEqProofs (maxSteps:=9^9) only [↓wkA,↓lv65,↓fz65,wuH,↓reduceIte,xA,xB,xC,xD,xE,xF,reduceCtorEq,xH,xI,xJ,xK,xL,xM,xN,xO,hl2,wbr]
mutual
def partsV:VT→Int→Int
 | .mk _ _ bs ls,z=>partsL ls (z-1-(bs.length:Nat))
def partsL:List VT→Int→Int
 | [],z=>z
 | v::r,z=>if z<0 then z else partsL r (partsV v z)
end
theorem partsL_cons{v:VT}{r:List VT}{z:Int}:partsL (v::r) z=if z<0 then z else partsL r (partsV v z):=by rw [partsL]
theorem partsL_neg{l:List VT}{z:Int}(h:z<0):partsL l z=z:=by
 cases l with
 | nil=>rw [partsL]
 | cons v r=>rw [partsL_cons,if_pos h]
mutual
theorem partsV_le:∀(v:VT)(z:Int),partsV v z≤z-1
 | .mk _ _ bs ls,z=>by
   rw [partsV]
   have:=partsL_le ls (z-1-(bs.length:Nat))
   omega
theorem partsL_le:∀(l:List VT)(z:Int),partsL l z≤z
 | [],z=>by rw [partsL];exact Int.le_refl _
 | v::r,z=>by
   rw [partsL_cons]
   split
   ·exact Int.le_refl _
   ·have:=partsL_le r (partsV v z)
    have:=partsV_le v z
    omega
end
theorem wrapP{z:Int}{n:Nat}(h0:0≤z)(h1:z≤9000)(h2:n≤9223372036854775807):IntKind.i64.wrap (z-IntKind.i64.wrap (1+(n:Int)))=z-1-(n:Int):=by
 simp [IntKind.wrap,IntKind.bits,IntKind.signed]
 omega
theorem loop71_0{ls:List VT}(hv:∀ v∈ls,∀ z:Int,0≤z→z≤9000→evW 71 [vA v,iA z] []=oR (iA (partsV v z))){k:KK}{X:Int→OO}(h1:∀ (z:Int) fr hp nx,k .ret ⟨(4,iA z)::fr,hp,nx,[]⟩=X z)(h2:∀ (z:Int) fr hp nx,look 1 fr=some (iA z)→k (.exit 0) ⟨fr,hp,nx,[]⟩=X z) :
  ∀(rest:List VT)(i:Nat)(z:Int),z≤9000→(0≤z→(i:Int)+z≤9000)→ls.drop i=rest→lpN ⟨28,0,kpOf 71,noTab⟩ (lp Tryz.f71 0) ⟨[(1,iA z),(14,.sl 4 (ls.map vC)),(15,iA ls.length),(16,iA i)],[],0,[]⟩ k=X (partsL rest z)
 | [],i,z,hz,hiz,hd=>by
   have hi:=drop_ge hd
   have h3:=h2 z
   unfold lpN
   conv=>lhs;arg 2;whnf
   simp +contextual -implicitDefEqProofs (maxSteps:=9^9) only [↓wkA,↓lv71,↓fz71,wuH,↓reduceIte,xA,xB,xC,xD,xE,xF,reduceCtorEq,xH,xI,xJ,xK,xL,xM,xN,xO,hi,h3,partsL,wbr]
 | b::rest,i,z,hz,hiz,hd=>by
   have hi:=drop_lt hd
   have hbi:=drop_at hd
   have hd2:=drop_nx hd
   cases hn:decide (z<0) with
   | true =>
     have hn':=of_decide_eq_true hn
     rw [partsL_neg hn']
     obtain⟨kb,nb,bb,lb⟩:=b
     unfold lpN
     conv=>lhs;arg 2;whnf
     simp +contextual -implicitDefEqProofs (maxSteps:=9^9) only [↓wkA,↓lv71,↓fz71,wuH,↓reduceIte,xA,xB,xC,xD,xE,xF,reduceCtorEq,xH,xI,xJ,xK,xL,xM,xN,xO,hi,hbi,hn,h1,map_get,vC_mk,wbr]
   | false =>
     have hn':¬ z<0:=of_decide_eq_false hn
     have hw:IntKind.i64.wrap ((i:Int)+1)=((i+1:Nat):Int):=wrap_succ (by have:=hiz (by omega);omega)
     have hle:=partsV_le b z
     have hc:=hv b (List.mem_of_getElem? hbi) z (by omega) hz
     have ih:=loop71_0 hv h1 h2 rest (i+1) (partsV b z) (by omega) (fun _=>by have:=hiz (by omega);omega) hd2
     rw [partsL_cons,if_neg hn']
     obtain⟨kb,nb,bb,lb⟩:=b
     rw [vA_mk] at hc
     unfold lpN
     conv=>lhs;arg 2;whnf
     simp +contextual -implicitDefEqProofs (maxSteps:=9^9) only [↓wkA,↓lv71,↓fz71,wuH,↓reduceIte,xA,xB,xC,xD,xE,xF,reduceCtorEq,xH,xI,xJ,xK,xL,xM,xN,xO,hi,hbi,hn,hw,hc,ih,lq71_0,map_get,vC_mk,wbr]
end Go.Proofs.YtdhcgankmhpgeaaGreat.M
