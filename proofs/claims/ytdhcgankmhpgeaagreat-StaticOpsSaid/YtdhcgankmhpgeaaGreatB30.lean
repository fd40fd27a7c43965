import Derived.Test.YtdhcgankmhpgeaaGreatB29
set_option linter.all false
namespace Go.Proofs.YtdhcgankmhpgeaaGreat.M
open Go
open Nat renaming reduceEqDiff → xA, reduceLT → xB, reduceAdd → xC, reduceMul → xD, reduceSub → xE, reduceDiv → xF, reduceLeDiff → xN
open Int renaming reduceAdd → xH, reduceLE → xI, reduceLT → xJ, reduceToNat → xK, reduceEq → xL, reduceBEq → xM
open UInt8 renaming reduceToNat → xO
set_option maxRecDepth 100000
set_option maxHeartbeats 4000000
attribute [local congr] br_congr ob2_congr cnd_congr gdK_congr ob_congr clK_congr finK_congr reg_congr pkK_congr kTK_congr dlT_congr gck_congr iff2_congr sel_congr dPn_congr apJ_congr nmK_congr kTo_congr fzO_congr rcK_congr lvB_congr crK_congr cdB_congr
theorem run302{a b:Int}{n:Nat}:evW 302 [.int .u64 a,.int .u64 b,.ptr 0 0] [.var 3 [iA (n:Nat)]]=some (.ret (.bool (decide (IntKind.i64.wrap (IntKind.u64.wrap (a*2^(min n IntKind.u64.bits)))<IntKind.i64.wrap (IntKind.u64.wrap (b*2^(min n IntKind.u64.bits)))))),[.var 3 [iA (n:Nat)]]):=by
 rw [w302 rfl]
 conv=>lhs;arg 2;whnf
 simp +contextual -implicitDefEqProofs (maxSteps:=9^9) only [↓wkA,↓lv302,↓fz302,↓tbr302,wuH,↓reduceIte,xA,xB,xC,xD,xE,xF,reduceCtorEq,xH,xI,xJ,xK,xL,xM,xN,xO,neg_cast,bin_shl,wbr]
def sgnP(n:Nat)(u v:LI):Bool:=knownB u&&(knownB v&&decide (IntKind.i64.wrap (IntKind.u64.wrap ((numF 0 0 u)*2^(min n IntKind.u64.bits)))<IntKind.i64.wrap (IntKind.u64.wrap ((numF 0 0 v)*2^(min n IntKind.u64.bits)))))
theorem run103s{u v:LI}(hu:isP u=true)(hv:isP v=true)(hl:u.length=v.length){n:Nat}:evW 103 [.agg [bitsA u,bitsA v],.fn 302 [.ptr 0 0]] [.var 3 [iA (n:Nat)]]=some (.ret (.tup [.bool (sgnP n u v),okE]),[.var 3 [iA (n:Nat)]]):=by
 have l1:=isP_len hu
 have l2:=isP_len hv
 have h1:=run194 hu hv hl
 have h2:=run195 hu
 have h3:=run195 hv
 have h4:=run198 (bs:=u) (by omega)
 have h5:=run198 (bs:=v) (by omega)
 rw [w103 rfl]
 conv=>lhs;arg 2;whnf
 simp +contextual -implicitDefEqProofs (maxSteps:=9^9) only [↓wk0,↓wk1,↓wk2,↓wk3,↓wk4,↓wk5,↓wk6,↓wk7,↓wk8,↓wk9,↓wk10,↓wk11,↓tyr4,↓tyz4,↓tyr151,↓tyz151,↓tyr153,↓tyz153,↓tyr155,↓tyz155,↓ld4,↓sto4,↓bbe4,↓bbn4,↓ld151,↓sto151,↓len151,↓nle151,↓nln151,↓ia151,↓sc151,↓bs151,↓mk151,↓ap151,↓ld153,↓sto153,↓fa153_0,↓fl153_0,↓fa153_1,↓fl153_1,↓bl153,↓ld155,↓sto155,↓mki155,↓cv155_2,↓cv155_3,↓cv155_162,↓cv155_326,↓lv103,↓fz103,↓tbr103,↓reduceIte,wu0,wu1,Nat.reduceEqDiff,Nat.reduceLT,Nat.reduceAdd,Nat.reduceMul,Nat.reduceSub,Nat.reduceDiv,reduceCtorEq,Int.reduceAdd,Int.reduceLE,Int.reduceLT,Int.reduceToNat,Int.reduceEq,Int.reduceBEq,Nat.reduceLeDiff,Nat.reduceLeDiff,UInt8.reduceToNat,leave_lvB,callD_cdB,lvK_lvB,lvP_lvB,h1,h2,h3,h4,h5,run302,sgnP,okE,br_eq,br_same]
theorem run239{u v:LI}(hu:isP u=true)(hv:isP v=true)(hl:u.length=v.length):evW 239 [bitsA u,bitsA v] []=oR (.tup [.bool (sgnP (64-u.length) u v),okE]):=by
 have l1:=isP_len hu
 have h1:=run103s hu hv hl (n:=64-u.length)
 have hw:IntKind.i64.wrap (64-(u.length:Int))=((64-u.length:Nat):Int):=by rw [wrap_i64 (by omega) (by omega)];omega
 simp only [bitsA] at h1 ⊢
 rw [w239 rfl]
 conv=>lhs;arg 2;whnf
 simp +contextual -implicitDefEqProofs (maxSteps:=9^9) only [↓wkA,↓lv239,↓fz239,wuH,↓reduceIte,xA,xB,xC,xD,xE,xF,reduceCtorEq,xH,xI,xJ,xK,xL,xM,xN,xO,h1,hw,bitsA,okE,wbr]
theorem loop256{u v:LI}(hb:u.length≤100000)(hl:u.length=v.length){k:KK}{X:Bool→OO}
  (h1:∀ fr nx b,k .ret ⟨(4,.bool b)::fr,[],nx,[]⟩=X b) (h2:∀ fr nx,k (.exit 0) ⟨fr,[],nx,[]⟩=X false) :
  ∀(m:Nat)(j:Int),m≤u.length→j=(m:Int)-1→lpN ⟨27,0,kpOf 256,tb256⟩ (lp Tryz.f256 0) ⟨[(0,bitsA u),(1,bitsA v),(5,iA j)],[],0,[]⟩ k=X (befF u v m)
 | 0,j,hm,hj=>by
   have hi:decide ((0:Int)≤j)=false:=by simp;omega
   unfold lpN
   conv=>lhs;arg 2;whnf
   simp +contextual -implicitDefEqProofs (maxSteps:=9^9) only [↓wkA,↓lv256,↓fz256,↓tbr256,wuH,↓reduceIte,xA,xB,xC,xD,xE,xF,reduceCtorEq,xH,xI,xJ,xK,xL,xM,xN,xO,hi,h2,befF,wbr]
 | m+1,j,hm,hj=>by
   obtain rfl:j=(m:Nat):=by omega
   have hi:decide ((0:Int)≤(m:Nat))=true:=by simp
   obtain⟨x,hx⟩:∃ x,u[m]?=some x:=⟨_,List.getElem?_eq_getElem (by omega)⟩
   obtain⟨y,hy⟩:∃ y,v[m]?=some y:=⟨_,List.getElem?_eq_getElem (by omega)⟩
   have hw:IntKind.i64.wrap ((m:Int)-1)=(m:Int)-1:=wrap_i64 (by omega) (by omega)
   have ih:=loop256 hb hl h1 h2 m ((m:Int)-1) (by omega) rfl
   simp only [bitsA] at ih
   have e:befF u v (m+1)=br (x==y) (befF u v m) (x==0):=by rw [befF,hx,hy];simp
   rw [e]
   cases q:(x==y)
   ·unfold lpN
    conv=>lhs;arg 2;whnf
    simp +contextual -implicitDefEqProofs (maxSteps:=9^9) only [↓wkA,↓lv256,↓fz256,↓tbr256,wuH,↓reduceIte,xA,xB,xC,xD,xE,xF,reduceCtorEq,xH,xI,xJ,xK,xL,xM,xN,xO,hi,hx,hy,q,h1,bitsA,bitsA_get,br_false,wbr]
   ·unfold lpN
    conv=>lhs;arg 2;whnf
    simp +contextual -implicitDefEqProofs (maxSteps:=9^9) only [↓wkA,↓lv256,↓fz256,↓tbr256,wuH,↓reduceIte,xA,xB,xC,xD,xE,xF,reduceCtorEq,xH,xI,xJ,xK,xL,xM,xN,xO,hi,hx,hy,q,hw,ih,lq256_0,bitsA,bitsA_get,br_true,wbr]
theorem run256{u v:LI}(hb:u.length≤100000)(hl:u.length=v.length):evW 256 [bitsA u,bitsA v] []=oR (.bool (befF u v u.length)):=by
 have hw:IntKind.i64.wrap ((u.length:Int)-1)=(u.length:Int)-1:=wrap_i64 (by omega) (by omega)
 rw [w256 rfl]
 conv=>lhs;arg 2;whnf
 simp +contextual -implicitDefEqProofs (maxSteps:=9^9) only [↓wkA,↓lv256,↓fz256,↓tbr256,wuH,↓reduceIte,xA,xB,xC,xD,xE,xF,reduceCtorEq,xH,xI,xJ,xK,xL,xM,xN,xO,hw,bitsA,wbr]
 refine(lpX_code (c':=lp Tryz.f256 0) (by kernel_rfl)).trans ?_
 rw [lq256_0]
 try simp +contextual -implicitDefEqProofs (maxSteps:=9^9) only [↓wkA,↓lv256,↓fz256,↓tbr256,wuH,↓reduceIte,xA,xB,xC,xD,xE,xF,reduceCtorEq,xH,xI,xJ,xK,xL,xM,xN,xO,hw,bitsA,wbr]
 refine(loop256 hb hl (X:=fun b=>oR (.bool b)) ?_ ?_ u.length ((u.length:Int)-1) (Nat.le_refl _) rfl).trans ?_
 ·intro fr nx b
  simp +contextual -implicitDefEqProofs (maxSteps:=9^9) only [↓wkA,↓lv256,↓fz256,↓tbr256,wuH,↓reduceIte,xA,xB,xC,xD,xE,xF,reduceCtorEq,xH,xI,xJ,xK,xL,xM,xN,xO,wbr]
 ·intro fr nx
  simp +contextual -implicitDefEqProofs (maxSteps:=9^9) only [↓wkA,↓lv256,↓fz256,↓tbr256,wuH,↓reduceIte,xA,xB,xC,xD,xE,xF,reduceCtorEq,xH,xI,xJ,xK,xL,xM,xN,xO,wbr]
 rfl
theorem run174a{u v:LI}(hu:isP u=true)(hv:isP v=true)(u0:∀ b∈u,(0:Int)≤b)(v0:∀ b∈v,(0:Int)≤b)(hl:u.length=v.length)(q:knownR u=false):evW 174 [bitsA u,bitsA v] []=oR (.tup [.bool false,okE]):=by
 have h252:=run252 hu hv u0 v0 hl
 have k1:=run251 hu u0
 have k2:=run251 hv v0
 rw [q] at k1
 simp only [bitsA] at h252 k1
 rw [w174 rfl]
 conv=>lhs;arg 2;whnf
 simp +contextual -implicitDefEqProofs (maxSteps:=9^9) only [↓wkA,↓lv174,↓fz174,↓tbr174,wuH,↓reduceIte,xA,xB,xC,xD,xE,xF,reduceCtorEq,xH,xI,xJ,xK,xL,xM,xN,xO,h252,k1,bitsA,wbr]
theorem run174b{u v:LI}(hu:isP u=true)(hv:isP v=true)(u0:∀ b∈u,(0:Int)≤b)(v0:∀ b∈v,(0:Int)≤b)(hl:u.length=v.length)(q:knownR u=true)(q2:knownR v=false):evW 174 [bitsA u,bitsA v] []=oR (.tup [.bool false,okE]):=by
 have h252:=run252 hu hv u0 v0 hl
 have k1:=run251 hu u0
 have k2:=run251 hv v0
 rw [q] at k1
 rw [q2] at k2
 simp only [bitsA] at h252 k1 k2
 rw [w174 rfl]
 conv=>lhs;arg 2;whnf
 simp +contextual -implicitDefEqProofs (maxSteps:=9^9) only [↓wkA,↓lv174,↓fz174,↓tbr174,wuH,↓reduceIte,xA,xB,xC,xD,xE,xF,reduceCtorEq,xH,xI,xJ,xK,xL,xM,xN,xO,h252,k1,k2,bitsA,wbr]
theorem run174c{u v:LI}(hu:isP u=true)(hv:isP v=true)(u0:∀ b∈u,(0:Int)≤b)(v0:∀ b∈v,(0:Int)≤b)(hl:u.length=v.length)(q:knownR u=true)(q2:knownR v=true):evW 174 [bitsA u,bitsA v] []=oR (.tup [.bool (sgnF u v),okE]):=by
 have h252:=run252 hu hv u0 v0 hl
 have k1:=run251 hu u0
 have k2:=run251 hv v0
 rw [q] at k1
 rw [q2] at k2
 have hlen:=isP_len hu
 obtain⟨n,hn⟩:∃ n,u.length=n+1:=⟨u.length-1,by omega⟩
 have hw:IntKind.i64.wrap ((u.length:Int)-1)=(n:Nat):=by rw [wrap_i64 (by omega) (by omega)];omega
 obtain⟨x,hx⟩:∃ x,u[n]?=some x:=⟨_,List.getElem?_eq_getElem (by omega)⟩
 obtain⟨y,hy⟩:∃ y,v[n]?=some y:=⟨_,List.getElem?_eq_getElem (by omega)⟩
 have h256:=run256 (u:=u) (v:=v) (by omega) hl
 rw [sgn_eq (bin_of q u0) (bin_of q2 v0) hl hn (by omega) hx hy,← hn]
 simp only [bitsA] at h252 k1 k2 h256 ⊢
 rw [w174 rfl]
 conv=>lhs;arg 2;whnf
 cases c:(x==y)
 ·simp +contextual -implicitDefEqProofs (maxSteps:=9^9) only [↓wkA,↓lv174,↓fz174,↓tbr174,wuH,↓reduceIte,xA,xB,xC,xD,xE,xF,reduceCtorEq,xH,xI,xJ,xK,xL,xM,xN,xO,h252,k1,k2,hw,hx,hy,c,bitsA_get,br_false,wbr]
 ·simp +contextual -implicitDefEqProofs (maxSteps:=9^9) only [↓wkA,↓lv174,↓fz174,↓tbr174,wuH,↓reduceIte,xA,xB,xC,xD,xE,xF,reduceCtorEq,xH,xI,xJ,xK,xL,xM,xN,xO,h252,k1,k2,hw,hx,hy,c,h256,bitsA_get,br_true,wbr]
theorem sgnP_eq{u v:LI}(hu:isP u=true)(hv:isP v=true)(u0:∀ b∈u,(0:Int)≤b)(v0:∀ b∈v,(0:Int)≤b)(hl:u.length=v.length):sgnP (64-u.length) u v=(knownR u&&(knownR v&&sgnF u v)):=by
 have l1:=isP_len hu
 unfold sgnP sgnF
 rw [known_eq hu,known_eq hv,← hl]
 cases q:knownR u with
 | false=>rfl
 | true =>
   cases q2:knownR v with
   | false=>rfl
   | true =>
     rw [num_val (bin_of q u0) (by omega),num_val (bin_of q2 v0) (by omega),show min (64-u.length) IntKind.u64.bits=64-u.length by simp [IntKind.bits]]
theorem run174{u v:LI}(hu:isP u=true)(hv:isP v=true)(u0:∀ b∈u,(0:Int)≤b)(v0:∀ b∈v,(0:Int)≤b)(hl:u.length=v.length):evW 174 [bitsA u,bitsA v] []=oR (.tup [.bool (sgnP (64-u.length) u v),okE]):=by
 rw [sgnP_eq hu hv u0 v0 hl]
 cases q:knownR u with
 | false=>exact run174a hu hv u0 v0 hl q
 | true =>
   cases q2:knownR v with
   | false=>exact run174b hu hv u0 v0 hl q q2
   | true=>exact run174c hu hv u0 v0 hl q q2
theorem do_slt{u v:LI}(hu:isP u=true)(hv:isP v=true)(hl:u.length=v.length){l l2:Int}:evW 75 [.str [115,108,116],.sl 4 [[iA 4,iA 0,bitsA u,.sl 4 []],[iA 4,iA 0,bitsA v,.sl 4 []]],.sl 5 [[iA 4,iA l,.str [],.sl 1 [],.sl 5 []],[iA 4,iA l2,.str [],.sl 1 [],.sl 5 []]]] []=oR (.tup [vl 2 (br (sgnP (64-u.length) u v) 1 0) (.sl 1 []),okE]):=by
 have h239:=run239 hu hv hl
 have h151:evW 151 [.str [115,108,116],.agg [iA 4,iA 0,bitsA u,.sl 4 []],.agg [iA 4,iA 0,bitsA v,.sl 4 []],.agg [iA 4,iA l,.str [],.sl 1 [],.sl 5 []]] []=oR (.tup [vl 2 (br (sgnP (64-u.length) u v) 1 0) (.sl 1 []),okE]):=by
  rw [w151 rfl]
  conv=>lhs;arg 2;whnf
  simp only [bitsA] at h239
  simp +contextual -implicitDefEqProofs (maxSteps:=9^9) only [↓wkA,↓lv151,↓fz151,↓tbr151,wuH,↓reduceIte,xA,xB,xC,xD,xE,xF,reduceCtorEq,xH,xI,xJ,xK,xL,xM,xN,xO,h239,run150,bitsA,wbr]
 rw [w75 rfl]
 conv=>lhs;arg 2;whnf
 simp +contextual -implicitDefEqProofs (maxSteps:=9^9) only [↓wkA,↓lv75,↓fz75,↓tbr75,wuH,↓reduceIte,xA,xB,xC,xD,xE,xF,reduceCtorEq,xH,xI,xJ,xK,xL,xM,xN,xO,h151,wbr]
theorem val_slt{u v:LI}(hu:isP u=true)(hv:isP v=true)(u0:∀ b∈u,(0:Int)≤b)(v0:∀ b∈v,(0:Int)≤b)(hl:u.length=v.length):evW 79 [.str [115,108,116],.sl 4 [[iA 4,iA 0,bitsA u,.sl 4 []],[iA 4,iA 0,bitsA v,.sl 4 []]]] []=oR (.tup [vl 2 (br (sgnP (64-u.length) u v) 1 0) (.sl 1 []),okE]):=by
 have h174:=run174 hu hv u0 v0 hl
 simp only [bitsA] at h174
 rw [w79 rfl]
 conv=>lhs;arg 2;whnf
 simp +contextual -implicitDefEqProofs (maxSteps:=9^9) only [↓wkA,↓lv79,↓fz79,↓tbr79,wuH,↓reduceIte,xA,xB,xC,xD,xE,xF,reduceCtorEq,xH,xI,xJ,xK,xL,xM,xN,xO,h174,run158,bitsA,wbr]
theorem appF_tab(T:LI):∀(u v w:LI)(i:Nat),u.length=v.length→w.drop i=v→appF (fun i x=>opT T x (vAt w i)) i u=(u.zip v).map fun p=>opT T p.1 p.2
 | [],_,_,_,_,_=>rfl
 | x::u,[],_,_,h,_=>by simp at h
 | x::u,y::v,w,i,h,hd=>by
   have hy:vAt w i=y:=by
    unfold vAt
    rw [drop_at hd]
    rfl
   rw [appF_cons,hy,appF_tab T u v w (i+1) (by simpa using h) (drop_nx hd)]
   rfl
theorem map_eq{T u v:LI}(hl:u.length=v.length):appF (fun i x=>opT T x (vAt v i)) 0 u=tabL u.length (gMap T u v):=by
 rw [appF_tab T u v v 0 hl rfl]
 apply List.ext_getElem?
 intro j
 unfold tabL gMap
 by_cases h:j<u.length
 ·have h2:j<v.length:=by omega
  simp [h,h2,List.getElem?_zip_eq_some]
  exact⟨_,_,⟨rfl,rfl⟩,rfl⟩
 ·have h2:¬ j<v.length:=by omega
  simp [h,h2]
  omega
theorem run160{s z:LU}{T:LI}(h249:evW 249 [.str s] []=oR (.tup [.str z,.bool true])){u v:LI}(hu:isP u=true)(hv:isP v=true)(u0:∀ b∈u,(0:Int)≤b)(v0:∀ b∈v,(0:Int)≤b)(hl:u.length=v.length)(h250:∀ x y,0≤x∧x≤3→0≤y∧y≤3→evW 250 [.str s,.int .u8 x,.int .u8 y] []=oR (.tup [.int .u8 (opT T x y),okE])):evW 160 [.str s,bitsA u,bitsA v] []=oR (.tup [bitsA (tabL u.length (gMap T u v)),okE]):=by
 have h97:=run97 (isP_lt hu)
 rw [isP_all hu u0] at h97
 have k97:=run97 (isP_lt hv)
 rw [isP_all hv v0] at k97
 have hlen:=isP_len hu
 rw [← map_eq hl]
 have u4:=isP_bit hu u0
 have v4:=isP_bit hv v0
 have e2:((u.length:Int)==(v.length:Int))=true:=by simp;omega
 obtain⟨x,u',e1⟩:∃ x u',u=x::u':=by
  cases u with
  | nil=>simp at hlen
  | cons x u'=>exact⟨x,u',rfl⟩
 simp only [bitsA] at h97 k97
 rw [w160 rfl]
 conv=>lhs;arg 2;whnf
 simp +contextual -implicitDefEqProofs (maxSteps:=9^9) only [↓wkA,↓lv160,↓fz160,↓tbr160,wuH,↓reduceIte,xA,xB,xC,xD,xE,xF,reduceCtorEq,xH,xI,xJ,xK,xL,xM,xN,xO,h249,h97,k97,e2,bitsA,wbr]
 refine(lpX_code (c':=lp Tryz.f160 0) (by kernel_rfl)).trans ?_
 rw [lq160_0]
 try simp +contextual -implicitDefEqProofs (maxSteps:=9^9) only [↓wkA,↓lv160,↓fz160,↓tbr160,wuH,↓reduceIte,xA,xB,xC,xD,xE,xF,reduceCtorEq,xH,xI,xJ,xK,xL,xM,xN,xO,h249,h97,k97,e2,wbr]
 refine(loop160F (by omega) u4 v4 hl h250 e1).trans ?_
 refine(loop160 (by omega) u4 v4 hl h250 (X:=fun xs=>oR (.tup [bitsA xs,okE])) ?_ u' 1 [opT T x (vAt v (0))] (by rw [e1];rfl) rfl (Nat.le_refl _) hlen.1).trans ?_
 ·intro xs fr nx hx _ hlk
  have hd:decide (u.length≤xs.length)=true:=by simp;omega
  have htk:List.take u.length (xs.map fun b=>[AV.int .u8 b])=xs.map fun b=>[AV.int .u8 b]:=List.take_of_length_le (by rw [List.length_map];omega)
  simp +contextual -implicitDefEqProofs (maxSteps:=9^9) only [↓wkA,↓lv160,↓fz160,↓tbr160,wuH,↓reduceIte,xA,xB,xC,xD,xE,xF,reduceCtorEq,xH,xI,xJ,xK,xL,xM,xN,xO,hlk,hd,htk,bitsA,wbr]
 ·rw [e1]
  rfl
theorem map244{nm:LU}{T:LI}{z:LU}(h:(nm,T,z)∈tabs){u v:LI}(hu:isP u=true)(hv:isP v=true)(u0:∀ b∈u,(0:Int)≤b)(v0:∀ b∈v,(0:Int)≤b)(hl:u.length=v.length):evW 244 [.str nm,bitsA u,bitsA v] []=oR (.tup [bitsA (tabL u.length (gMap T u v)),okE]):=by
 obtain⟨h9,h234,_,_⟩:=tab_facts _ _ _ h
 obtain⟨a,b,c,d,e,f,g,p,q,rfl⟩:=t9 h9
 exact run244 h234 hu hv u0 v0 hl
theorem map160{nm:LU}{T:LI}{z:LU}(h:(nm,T,z)∈tabs){u v:LI}(hu:isP u=true)(hv:isP v=true)(u0:∀ b∈u,(0:Int)≤b)(v0:∀ b∈v,(0:Int)≤b)(hl:u.length=v.length):evW 160 [.str nm,bitsA u,bitsA v] []=oR (.tup [bitsA (tabL u.length (gMap T u v)),okE]):=by
 obtain⟨h9,_,h249,h250⟩:=tab_facts _ _ _ h
 exact run160 h249 hu hv u0 v0 hl h250
theorem run151map{nm:LU}{T:LI}{z:LU}(h:(nm,T,z)∈tabs){u v:LI}(hu:isP u=true)(hv:isP v=true)(u0:∀ b∈u,(0:Int)≤b)(v0:∀ b∈v,(0:Int)≤b)(hl:u.length=v.length){k l:Int}:evW 151 [.str nm,.agg [iA k,iA 0,bitsA u,.sl 4 []],.agg [iA k,iA 0,bitsA v,.sl 4 []],.agg [iA k,iA l,.str [],.sl 1 [],.sl 5 []]] []=oR (.tup [vl k 0 (bitsA (tabL u.length (gMap T u v))),okE]):=by
 have h244:=map244 h hu hv u0 v0 hl
 have h229:=@run229 k l (tabL u.length (gMap T u v))
 simp only [bitsA] at h244 h229 ⊢
 simp only [tabs,List.mem_cons,Prod.mk.injEq,List.not_mem_nil,or_false] at h
 rcases h with ⟨rfl,rfl,rfl⟩|⟨rfl,rfl,rfl⟩|⟨rfl,rfl,rfl⟩|⟨rfl,rfl,rfl⟩|⟨rfl,rfl,rfl⟩|⟨rfl,rfl,rfl⟩
 all_goals
  rw [w151 rfl]
  conv=>lhs;arg 2;whnf
  simp +contextual -implicitDefEqProofs (maxSteps:=9^9) only [↓wkA,↓lv151,↓fz151,↓tbr151,wuH,↓reduceIte,xA,xB,xC,xD,xE,xF,reduceCtorEq,xH,xI,xJ,xK,xL,xM,xN,xO,h244,h229,bitsA,wbr]
theorem do_map{nm:LU}{T:LI}{z:LU}(h:(nm,T,z)∈tabs){u v:LI}(hu:isP u=true)(hv:isP v=true)(u0:∀ b∈u,(0:Int)≤b)(v0:∀ b∈v,(0:Int)≤b)(hl:u.length=v.length){k l l2:Int}(hk:k=1∨k=4):evW 75 [.str nm,.sl 4 [[iA k,iA 0,bitsA u,.sl 4 []],[iA k,iA 0,bitsA v,.sl 4 []]],.sl 5 [[iA k,iA l,.str [],.sl 1 [],.sl 5 []],[iA k,iA l2,.str [],.sl 1 [],.sl 5 []]]] []=oR (.tup [vl k 0 (bitsA (tabL u.length (gMap T u v))),okE]):=by
 have h151:=run151map h hu hv u0 v0 hl (k:=k) (l:=l)
 simp only [tabs,List.mem_cons,Prod.mk.injEq,List.not_mem_nil,or_false] at h
 rcases h with ⟨rfl,rfl,rfl⟩|⟨rfl,rfl,rfl⟩|⟨rfl,rfl,rfl⟩|⟨rfl,rfl,rfl⟩|⟨rfl,rfl,rfl⟩|⟨rfl,rfl,rfl⟩
 all_goals
  rcases hk with rfl|rfl
 all_goals
  rw [w75 rfl]
  conv=>lhs;arg 2;whnf
  simp +contextual -implicitDefEqProofs (maxSteps:=9^9) only [↓wkA,↓lv75,↓fz75,↓tbr75,wuH,↓reduceIte,xA,xB,xC,xD,xE,xF,reduceCtorEq,xH,xI,xJ,xK,xL,xM,xN,xO,h151,wbr]
theorem val_map{nm:LU}{T:LI}{z:LU}(h:(nm,T,z)∈tabs){u v:LI}(hu:isP u=true)(hv:isP v=true)(u0:∀ b∈u,(0:Int)≤b)(v0:∀ b∈v,(0:Int)≤b)(hl:u.length=v.length){k:Int}(hk:k=1∨k=4):evW 79 [.str nm,.sl 4 [[iA k,iA 0,bitsA u,.sl 4 []],[iA k,iA 0,bitsA v,.sl 4 []]]] []=oR (.tup [vl k 0 (bitsA (tabL u.length (gMap T u v))),okE]):=by
 have h160:=map160 h hu hv u0 v0 hl
 simp only [bitsA] at h160 ⊢
 simp only [tabs,List.mem_cons,Prod.mk.injEq,List.not_mem_nil,or_false] at h
 rcases h with ⟨rfl,rfl,rfl⟩|⟨rfl,rfl,rfl⟩|⟨rfl,rfl,rfl⟩|⟨rfl,rfl,rfl⟩|⟨rfl,rfl,rfl⟩|⟨rfl,rfl,rfl⟩
 all_goals
  rcases hk with rfl|rfl
 all_goals
  rw [w79 rfl]
  conv=>lhs;arg 2;whnf
  simp +contextual -implicitDefEqProofs (maxSteps:=9^9) only [↓wkA,↓lv79,↓fz79,↓tbr79,wuH,↓reduceIte,xA,xB,xC,xD,xE,xF,reduceCtorEq,xH,xI,xJ,xK,xL,xM,xN,xO,h160,bitsA,wbr]
theorem run164divA{a b:Int}(ha:isI a=true)(hb:isI b=true):evW 164 [.str [47],iA a,iA b] []=oR (.tup [iA (intN floorF true a b),iA (intE floorF true a b)]):=by
 cases z:(b==0)
 ·exact run164div ha hb z
 ·exact run164divz ha hb z
theorem do_idivt{a b:Int}(h:(intE floorF true a b==0)=true):evW 75 [.str [47],.sl 4 [[iA 3,iA a,.sl 1 [],.sl 4 []],[iA 3,iA b,.sl 1 [],.sl 4 []]],.sl 5 [[iA 3,iA 0,.str [],.sl 1 [],.sl 5 []],[iA 3,iA 0,.str [],.sl 1 [],.sl 5 []]]] []=oR (.tup [vl 3 (intN floorF true a b) (.sl 1 []),okE]):=by
 have h3:=run148div (a:=a) (b:=b)
 rw [h,br_true] at h3
 rw [w75 rfl]
 conv=>lhs;arg 2;whnf
 simp +contextual -implicitDefEqProofs (maxSteps:=9^9) only [↓wkA,↓lv75,↓fz75,↓tbr75,wuH,↓reduceIte,xA,xB,xC,xD,xE,xF,reduceCtorEq,xH,xI,xJ,xK,xL,xM,xN,xO,h3,wbr]
theorem val_idivt{a b:Int}(ha:isI a=true)(hb:isI b=true)(h:(intE floorF true a b==0)=true):evW 79 [.str [47],.sl 4 [[iA 3,iA a,.sl 1 [],.sl 4 []],[iA 3,iA b,.sl 1 [],.sl 4 []]]] []=oR (.tup [vl 3 (intN floorF true a b) (.sl 1 []),okE]):=by
 have h4:=run164divA ha hb
 have h5:=run163t (n:=intN floorF true a b) h
 rw [w79 rfl]
 conv=>lhs;arg 2;whnf
 simp +contextual -implicitDefEqProofs (maxSteps:=9^9) only [↓wkA,↓lv79,↓fz79,↓tbr79,wuH,↓reduceIte,xA,xB,xC,xD,xE,xF,reduceCtorEq,xH,xI,xJ,xK,xL,xM,xN,xO,h4,h5,wbr]
theorem do_idivf{a b:Int}(h:(intE floorF true a b==0)=false):evW 75 [.str [47],.sl 4 [[iA 3,iA a,.sl 1 [],.sl 4 []],[iA 3,iA b,.sl 1 [],.sl 4 []]],.sl 5 [[iA 3,iA 0,.str [],.sl 1 [],.sl 5 []],[iA 3,iA 0,.str [],.sl 1 [],.sl 5 []]]] []=oR (.tup [vl 0 0 (.sl 1 []),iA (intE floorF true a b)]):=by
 have h3:=run148div (a:=a) (b:=b)
 rw [h,br_false] at h3
 rw [w75 rfl]
 conv=>lhs;arg 2;whnf
 simp +contextual -implicitDefEqProofs (maxSteps:=9^9) only [↓wkA,↓lv75,↓fz75,↓tbr75,wuH,↓reduceIte,xA,xB,xC,xD,xE,xF,reduceCtorEq,xH,xI,xJ,xK,xL,xM,xN,xO,h3,wbr]
theorem val_idivf{a b:Int}(ha:isI a=true)(hb:isI b=true)(h:(intE floorF true a b==0)=false):evW 79 [.str [47],.sl 4 [[iA 3,iA a,.sl 1 [],.sl 4 []],[iA 3,iA b,.sl 1 [],.sl 4 []]]] []=oR (.tup [vl 0 0 (.sl 1 []),iA (intE floorF true a b)]):=by
 have h4:=run164divA ha hb
 have h5:=run163f (n:=intN floorF true a b) h
 rw [w79 rfl]
 conv=>lhs;arg 2;whnf
 simp +contextual -implicitDefEqProofs (maxSteps:=9^9) only [↓wkA,↓lv79,↓fz79,↓tbr79,wuH,↓reduceIte,xA,xB,xC,xD,xE,xF,reduceCtorEq,xH,xI,xJ,xK,xL,xM,xN,xO,h4,h5,wbr]
theorem run164modA{a b:Int}(ha:isI a=true)(hb:isI b=true):evW 164 [.str [109,111,100],iA a,iA b] []=oR (.tup [iA (intN modI true a b),iA (intE modI true a b)]):=by
 cases z:(b==0)
 ·exact run164mod ha hb z
 ·exact run164modz ha hb z
theorem do_imodt{a b:Int}(h:(intE modI true a b==0)=true):evW 75 [.str [109,111,100],.sl 4 [[iA 3,iA a,.sl 1 [],.sl 4 []],[iA 3,iA b,.sl 1 [],.sl 4 []]],.sl 5 [[iA 3,iA 0,.str [],.sl 1 [],.sl 5 []],[iA 3,iA 0,.str [],.sl 1 [],.sl 5 []]]] []=oR (.tup [vl 3 (intN modI true a b) (.sl 1 []),okE]):=by
 have h3:=run148mod (a:=a) (b:=b)
 rw [h,br_true] at h3
 rw [w75 rfl]
 conv=>lhs;arg 2;whnf
 simp +contextual -implicitDefEqProofs (maxSteps:=9^9) only [↓wkA,↓lv75,↓fz75,↓tbr75,wuH,↓reduceIte,xA,xB,xC,xD,xE,xF,reduceCtorEq,xH,xI,xJ,xK,xL,xM,xN,xO,h3,wbr]
theorem val_imodt{a b:Int}(ha:isI a=true)(hb:isI b=true)(h:(intE modI true a b==0)=true):evW 79 [.str [109,111,100],.sl 4 [[iA 3,iA a,.sl 1 [],.sl 4 []],[iA 3,iA b,.sl 1 [],.sl 4 []]]] []=oR (.tup [vl 3 (intN modI true a b) (.sl 1 []),okE]):=by
 have h4:=run164modA ha hb
 have h5:=run163t (n:=intN modI true a b) h
 rw [w79 rfl]
 conv=>lhs;arg 2;whnf
 simp +contextual -implicitDefEqProofs (maxSteps:=9^9) only [↓wkA,↓lv79,↓fz79,↓tbr79,wuH,↓reduceIte,xA,xB,xC,xD,xE,xF,reduceCtorEq,xH,xI,xJ,xK,xL,xM,xN,xO,h4,h5,wbr]
theorem do_imodf{a b:Int}(h:(intE modI true a b==0)=false):evW 75 [.str [109,111,100],.sl 4 [[iA 3,iA a,.sl 1 [],.sl 4 []],[iA 3,iA b,.sl 1 [],.sl 4 []]],.sl 5 [[iA 3,iA 0,.str [],.sl 1 [],.sl 5 []],[iA 3,iA 0,.str [],.sl 1 [],.sl 5 []]]] []=oR (.tup [vl 0 0 (.sl 1 []),iA (intE modI true a b)]):=by
 have h3:=run148mod (a:=a) (b:=b)
 rw [h,br_false] at h3
 rw [w75 rfl]
 conv=>lhs;arg 2;whnf
 simp +contextual -implicitDefEqProofs (maxSteps:=9^9) only [↓wkA,↓lv75,↓fz75,↓tbr75,wuH,↓reduceIte,xA,xB,xC,xD,xE,xF,reduceCtorEq,xH,xI,xJ,xK,xL,xM,xN,xO,h3,wbr]
theorem val_imodf{a b:Int}(ha:isI a=true)(hb:isI b=true)(h:(intE modI true a b==0)=false):evW 79 [.str [109,111,100],.sl 4 [[iA 3,iA a,.sl 1 [],.sl 4 []],[iA 3,iA b,.sl 1 [],.sl 4 []]]] []=oR (.tup [vl 0 0 (.sl 1 []),iA (intE modI true a b)]):=by
 have h4:=run164modA ha hb
 have h5:=run163f (n:=intN modI true a b) h
 rw [w79 rfl]
 conv=>lhs;arg 2;whnf
 simp +contextual -implicitDefEqProofs (maxSteps:=9^9) only [↓wkA,↓lv79,↓fz79,↓tbr79,wuH,↓reduceIte,xA,xB,xC,xD,xE,xF,reduceCtorEq,xH,xI,xJ,xK,xL,xM,xN,xO,h4,h5,wbr]
def oneB(b:Int):Int:=br (b==1) 1 0
def ones(v:LI):LI:=v.map oneB
theorem ones_cons{b:Int}{r:LI}:ones (b::r)=oneB b::ones r:=rfl
theorem bin_ones(v:LI):Bin (ones v):=by
 intro x hx
 obtain⟨b,_,rfl⟩:=List.mem_map.1 hx
 unfold oneB
 cases b==1
 ·exact .inl rfl
 ·exact .inr rfl
def orS(z:Int)(i:Nat):Int:=IntKind.i64.wrap ((BitVec.ofInt IntKind.i64.bits z ||| BitVec.ofInt IntKind.i64.bits (IntKind.i64.wrap (1*2^(min i IntKind.i64.bits)))).toNat:Nat)
def orF:Int→Nat→LI→Int
 | z,_,[]=>z
 | z,i,b::r=>orF (br (b==1) (orS z i) z) (i+1) r
theorem orS_eq{m:Int}{i:Nat}(hm:0≤m)(hl:m<2^i)(hi:i<32):orS m i=m+2^i:=by
 obtain⟨a,rfl⟩:∃ a:Nat,m=a:=⟨m.toNat,by omega⟩
 have ha:a<2^i:=by exact_mod_cast hl
 have h32:(2:Nat)^i≤2^31:=Nat.pow_le_pow_right (by omega) (by omega)
 have hmin:min i IntKind.i64.bits=i:=by simp [IntKind.bits];omega
 have h64:(2:Nat)^i<2^64:=Nat.pow_lt_pow_right (by omega) (by omega)
 have hw:IntKind.i64.wrap (1*2^i)=((2^i:Nat):Int):=by
  rw [Int.one_mul,show ((2:Int)^i)=((2^i:Nat):Int) by simp]
  generalize 2^i=p at h32
  exact wrap_i64 (by omega) (by omega)
 have e:(BitVec.ofInt IntKind.i64.bits (a:Int) ||| BitVec.ofInt IntKind.i64.bits (IntKind.i64.wrap (1*2^i))).toNat=a+2^i:=by
  rw [hw]
  show (BitVec.ofInt 64 (a:Int) ||| BitVec.ofInt 64 ((2^i:Nat):Int)).toNat=a+2^i
  rw [BitVec.toNat_or,BitVec.ofInt_natCast,BitVec.ofInt_natCast,BitVec.toNat_ofNat,BitVec.toNat_ofNat,Nat.mod_eq_of_lt h64,Nat.mod_eq_of_lt (by omega),Nat.or_comm]
  have t:=Nat.two_pow_add_eq_or_of_lt ha 1
  rw [Nat.mul_one] at t
  rw [← t]
  omega
 unfold orS
 rw [hmin,e,show ((2:Int)^i)=((2^i:Nat):Int) by simp]
 generalize 2^i=p at h32 ha
 rw [wrap_i64 (by omega) (by omega)]
 omega
theorem orF_eq:∀(r:LI)(m:Int)(i:Nat),0≤m→m<2^i→i+r.length≤31→orF m i r=m+2^i*valN (ones r)
 | [],m,i,_,_,_=>by simp [orF,ones,valN]
 | b::r,m,i,h0,h1,h2=>by
   rw [List.length_cons] at h2
   have hp:(2:Int)^(i+1)=2*2^i:=by rw [Int.pow_succ,Int.mul_comm]
   have hpos:(0:Int)<2^i:=Int.pow_pos (by omega)
   rw [orF,ones_cons,valN_cons]
   unfold oneB
   have hd:(2:Int)^(i+1)*valN (ones r)=2^i*(2*valN (ones r)):=by rw [hp,Int.mul_comm 2,Int.mul_assoc]
   cases q:(b==1)
   ·rw [br_false,br_false,orF_eq r m (i+1) h0 (by omega) (by omega),hd,Int.zero_add]
   ·rw [br_true,br_true,orS_eq h0 h1 (by omega),orF_eq r _ (i+1) (by omega) (by omega) (by omega),hd,Int.mul_add,Int.mul_one]
    omega
theorem loop230{v:LI}(hb:v.length<100000){k:KK}{X:Int→OO}
  (h2:∀(m:Int) fr nx,look 4 fr=some (iA m)→k (.exit 1) ⟨fr,[],nx,[]⟩=X m) :
  ∀(rest:LI)(i:Nat)(z:Int),v.drop i=rest→lpN ⟨30,0,kpOf 230,noTab⟩ (lp Tryz.f230 0) ⟨[(4,iA z),(15,bitsA v),(16,iA v.length),(17,iA i)],[],0,[]⟩ k=X (orF z i rest)
 | [],i,z,hd=>by
   have hi:=drop_ge hd
   have h3:=h2 z
   unfold lpN
   conv=>lhs;arg 2;whnf
   simp +contextual -implicitDefEqProofs (maxSteps:=9^9) only [↓wkA,↓lv230,↓fz230,wuH,↓reduceIte,xA,xB,xC,xD,xE,xF,reduceCtorEq,xH,xI,xJ,xK,xL,xM,xN,xO,hi,h3,orF,wbr]
 | b::rest,i,z,hd=>by
   have hi:=drop_lt hd
   have hbi:=drop_at hd
   have hw:IntKind.i64.wrap ((i:Int)+1)=((i+1:Nat):Int):=wrap_succ (by simp at hi;omega)
   have ih:=fun m=>loop230 hb h2 rest (i+1) m (drop_nx hd)
   simp only [bitsA] at ih
   rw [orF]
   cases q:(b==1)
   all_goals
    unfold lpN
    conv=>lhs;arg 2;whnf
    simp +contextual -implicitDefEqProofs (maxSteps:=9^9) only [↓wkA,↓lv230,↓fz230,wuH,↓reduceIte,xA,xB,xC,xD,xE,xF,reduceCtorEq,xH,xI,xJ,xK,xL,xM,xN,xO,hi,hw,hbi,q,ih,orS,neg_cast,bin_shl,br_true,br_false,lq230_0,bitsA,bitsA_get,map_get,wbr]
theorem loop247{v:LI}(hl:v.length≤31){k:KK}{X:Int→OO}
  (h2:∀ fr nx,look 4 fr=some (iA (valN (ones v)))→k (.exit 1) ⟨fr,[],nx,[]⟩=X (valN (ones v))) :
  ∀(r i:Nat)(z:Int),i+r=v.length→z=valN (ones (v.drop r))→lpN ⟨34,0,kpOf 247,noTab⟩ (lp Tryz.f247 0) ⟨[(0,bitsA v),(4,iA z),(15,iA v.length),(16,iA i)],[],0,[]⟩ k=X (valN (ones v))
 | 0,i,z,hr,hz=>by
   have hi:decide ((i:Int)<(v.length:Nat))=false:=by simp;omega
   rw [List.drop_zero] at hz
   subst hz
   unfold lpN
   conv=>lhs;arg 2;whnf
   simp +contextual -implicitDefEqProofs (maxSteps:=9^9) only [↓wkA,↓lv247,↓fz247,wuH,↓reduceIte,xA,xB,xC,xD,xE,xF,reduceCtorEq,xH,xI,xJ,xK,xL,xM,xN,xO,hi,h2,wbr]
 | r+1,i,z,hr,hz=>by
   have hi:decide ((i:Int)<(v.length:Nat))=true:=by simp;omega
   have hw:IntKind.i64.wrap ((i:Int)+1)=((i+1:Nat):Int):=wrap_succ (by omega)
   obtain⟨b,hb⟩:∃ b,v[r]?=some b:=⟨_,List.getElem?_eq_getElem (by omega)⟩
   have hdb:v.drop r=b::v.drop (r+1):=by
    obtain⟨hlt,e⟩:=List.getElem?_eq_some_iff.1 hb
    rw [List.drop_eq_getElem_cons hlt,e]
   have hw1:IntKind.i64.wrap ((v.length:Int)-1)=(v.length:Int)-1:=wrap_i64 (by omega) (by omega)
   have hw2:IntKind.i64.wrap ((v.length:Int)-1-(i:Int))=(r:Nat):=by rw [wrap_i64 (by omega) (by omega)];omega
   have hz2:=valN_lt (bin_ones (v.drop (r+1)))
   have hp:(2:Int)^(ones (v.drop (r+1))).length≤2^31:=by
    have:(ones (v.drop (r+1))).length≤31:=by unfold ones;simp;omega
    exact_mod_cast Nat.pow_le_pow_right (by omega) this
   have hz3:0≤z∧z≤2147483648:=by rw [hz];exact⟨hz2.1,by have:=hz2.2;omega⟩
   have hw3:IntKind.i64.wrap (2*z)=2*z:=wrap_i64 (by omega) (by omega)
   have hw4:IntKind.i64.wrap (2*z+1)=2*z+1:=wrap_i64 (by omega) (by omega)
   cases q:(b==1)
   ·have ih:=loop247 hl h2 r (i+1) (2*z) (by omega) (by rw [hdb,ones_cons,valN_cons,hz];unfold oneB;rw [q,br_false];omega)
    simp only [bitsA] at ih
    unfold lpN
    conv=>lhs;arg 2;whnf
    simp +contextual -implicitDefEqProofs (maxSteps:=9^9) only [↓wkA,↓lv247,↓fz247,wuH,↓reduceIte,xA,xB,xC,xD,xE,xF,reduceCtorEq,xH,xI,xJ,xK,xL,xM,xN,xO,hi,hw,hw1,hw2,hw3,hw4,hb,q,ih,lq247_0,bitsA,bitsA_get,wbr]
   ·have ih:=loop247 hl h2 r (i+1) (2*z+1) (by omega) (by rw [hdb,ones_cons,valN_cons,hz];unfold oneB;rw [q,br_true];omega)
    simp only [bitsA] at ih
    unfold lpN
    conv=>lhs;arg 2;whnf
    simp +contextual -implicitDefEqProofs (maxSteps:=9^9) only [↓wkA,↓lv247,↓fz247,wuH,↓reduceIte,xA,xB,xC,xD,xE,xF,reduceCtorEq,xH,xI,xJ,xK,xL,xM,xN,xO,hi,hw,hw1,hw2,hw3,hw4,hb,q,ih,lq247_0,bitsA,bitsA_get,wbr]
end Go.Proofs.YtdhcgankmhpgeaaGreat.M
