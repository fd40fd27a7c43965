import Derived.Test.YtdhcgankmhpgeaaGreatB10
set_option linter.all false
namespace Go.Proofs.YtdhcgankmhpgeaaGreat.M
open Go
open Nat renaming reduceEqDiff → xA, reduceLT → xB, reduceAdd → xC, reduceMul → xD, reduceSub → xE, reduceDiv → xF, reduceLeDiff → xN
open Int renaming reduceAdd → xH, reduceLE → xI, reduceLT → xJ, reduceToNat → xK, reduceEq → xL, reduceBEq → xM
open UInt8 renaming reduceToNat → xO
set_option maxRecDepth 100000
set_option maxHeartbeats 4000000
attribute [local congr] br_congr ob2_congr cnd_congr gdK_congr ob_congr clK_congr finK_congr reg_congr pkK_congr kTK_congr dlT_congr gck_congr iff2_congr sel_congr dPn_congr apJ_congr nmK_congr kTo_congr fzO_congr rcK_congr lvB_congr crK_congr cdB_congr
theorem mmT2{k k':IntKind}{a b:Int}:mmD true [.int k a,.int k' b]=some (.int k (if b>a then b else a)):=by simp [mmD,maxD]
theorem mmF2{k k':IntKind}{a b:Int}:mmD false [.int k a,.int k' b]=some (.int k (if b<a then b else a)):=by simp [mmD,maxD]
abbrev vl(k n:Int)(b:AV):AV := .agg [iA k,iA n,b,.sl 4 []]
abbrev tyA(k l:Int):AV := .agg [iA k,iA l,.str [],.sl 1 [],.sl 5 []]
abbrev okE:AV:=iA 0
def isBitB(b:Int):Bool:=b==0||(b==1||(b==2||b==3))
theorem run193{b:Int}:evW 193 [.int .u8 b] []=oR (.bool (isBitB b)):=by
 rw [w193 rfl]
 conv=>lhs;arg 2;whnf
 simp +contextual -implicitDefEqProofs (maxSteps:=9^9) only [↓wkA,↓lv193,↓fz193,wuH,↓reduceIte,xA,xB,xC,xD,xE,xF,reduceCtorEq,xH,xI,xJ,xK,xL,xM,xN,xO,isBitB,wbr]
theorem run235{b:Int}:evW 235 [.int .u8 b] []=oR (.bool (decide (b≤3))):=by
 rw [w235 rfl]
 conv=>lhs;arg 2;whnf
 simp +contextual -implicitDefEqProofs (maxSteps:=9^9) only [↓wkA,↓lv235,↓fz235,wuH,↓reduceIte,xA,xB,xC,xD,xE,xF,reduceCtorEq,xH,xI,xJ,xK,xL,xM,xN,xO,wbr]
theorem run263{b:Int}:evW 263 [.int .u8 b] []=oR (.bool (!decide (b≤3))):=by
 rw [w263 rfl]
 conv=>lhs;arg 2;whnf
 simp +contextual -implicitDefEqProofs (maxSteps:=9^9) only [↓wkA,↓lv263,↓fz263,wuH,↓reduceIte,xA,xB,xC,xD,xE,xF,reduceCtorEq,xH,xI,xJ,xK,xL,xM,xN,xO,run235,wbr]
def isI(k:Int):Bool:=decide (-2147483648≤k)&&decide (k≤2147483647)
theorem run106{k:Int}:evW 106 [iA k] []=oR (.bool (isI k)):=by
 rw [w106 rfl]
 conv=>lhs;arg 2;whnf
 simp +contextual -implicitDefEqProofs (maxSteps:=9^9) only [↓wkA,↓lv106,↓fz106,wuH,↓reduceIte,xA,xB,xC,xD,xE,xF,reduceCtorEq,xH,xI,xJ,xK,xL,xM,xN,xO,isI,wbr]
theorem run42:evW 42 [] []=oR (tyA 3 0):=by
 rw [w42 rfl]
 conv=>lhs;arg 2;whnf
 simp +contextual -implicitDefEqProofs (maxSteps:=9^9) only [↓wkA,↓lv42,↓fz42,wuH,↓reduceIte,xA,xB,xC,xD,xE,xF,reduceCtorEq,xH,xI,xJ,xK,xL,xM,xN,xO,wbr]
theorem run226:evW 226 [] []=oR (tyA 3 0):=by
 rw [w226 rfl]
 conv=>lhs;arg 2;whnf
 simp +contextual -implicitDefEqProofs (maxSteps:=9^9) only [↓wkA,↓lv226,↓fz226,wuH,↓reduceIte,xA,xB,xC,xD,xE,xF,reduceCtorEq,xH,xI,xJ,xK,xL,xM,xN,xO,wbr]
theorem run144:evW 144 [] []=oR (tyA 2 0):=by
 rw [w144 rfl]
 conv=>lhs;arg 2;whnf
 simp +contextual -implicitDefEqProofs (maxSteps:=9^9) only [↓wkA,↓lv144,↓fz144,wuH,↓reduceIte,xA,xB,xC,xD,xE,xF,reduceCtorEq,xH,xI,xJ,xK,xL,xM,xN,xO,wbr]
theorem run33{n:Int}:evW 33 [iA n] []=oR (tyA 4 n):=by
 rw [w33 rfl]
 conv=>lhs;arg 2;whnf
 simp +contextual -implicitDefEqProofs (maxSteps:=9^9) only [↓wkA,↓lv33,↓fz33,wuH,↓reduceIte,xA,xB,xC,xD,xE,xF,reduceCtorEq,xH,xI,xJ,xK,xL,xM,xN,xO,wbr]
theorem run145{n:Int}:evW 145 [iA n] []=oR (tyA 4 n):=by
 rw [w145 rfl]
 conv=>lhs;arg 2;whnf
 simp +contextual -implicitDefEqProofs (maxSteps:=9^9) only [↓wkA,↓lv145,↓fz145,wuH,↓reduceIte,xA,xB,xC,xD,xE,xF,reduceCtorEq,xH,xI,xJ,xK,xL,xM,xN,xO,wbr]
theorem run231{n:Int}:evW 231 [iA n] []=oR (vl 3 n (.sl 1 [])):=by
 rw [w231 rfl]
 conv=>lhs;arg 2;whnf
 simp +contextual -implicitDefEqProofs (maxSteps:=9^9) only [↓wkA,↓lv231,↓fz231,wuH,↓reduceIte,xA,xB,xC,xD,xE,xF,reduceCtorEq,xH,xI,xJ,xK,xL,xM,xN,xO,wbr]
theorem run150{b:Bool}:evW 150 [.bool b] []=oR (vl 2 (br b 1 0) (.sl 1 [])):=by
 rw [w150 rfl]
 conv=>lhs;arg 2;whnf
 simp +contextual -implicitDefEqProofs (maxSteps:=9^9) only [↓wkA,↓lv150,↓fz150,wuH,↓reduceIte,xA,xB,xC,xD,xE,xF,reduceCtorEq,xH,xI,xJ,xK,xL,xM,xN,xO,br_true,br_false,wbr]
theorem loop97_0{bs:LI}(hb:bs.length<4611686018427387904){k:KK}{X Y:OO}(h1:∀ fr nx,k .ret ⟨(2,.bool false)::fr,[],nx,[]⟩=X)(h2:∀ fr nx,look 0 fr=some (bitsA bs)→k (.exit 0) ⟨fr,[],nx,[]⟩=Y) :
  ∀(rest:LI)(i:Nat) ,bs.drop i=rest →  lpN ⟨23,0,kpOf 97,noTab⟩ (lp Tryz.f97 0) ⟨[(0,bitsA bs),(5,bitsA bs),(6,iA bs.length),(7,iA i)],[],0,[]⟩ k=br (rest.all isBitB) Y X
 | [],i,hd=>by
   have hi:=drop_ge hd
   unfold lpN
   conv=>lhs;arg 2;whnf
   simp +contextual -implicitDefEqProofs (maxSteps:=9^9) only [↓wkA,↓lv97,↓fz97,wuA,↓reduceIte,xA,xB,xC,xD,xE,xF,reduceCtorEq,xH,xI,xJ,xK,xL,xM,xN,xO,hi,h1,h2,List.all_nil,wbr]
 | b::rest,i,hd=>by
   have hi:=drop_lt hd
   have hbi:=drop_at hd
   have hd2:=drop_nx hd
   have hw:IntKind.i64.wrap ((i:Int)+1)=((i+1:Nat):Int):=wrap_succ (by simp at hi;omega)
   have ih:=loop97_0 hb h1 h2 rest (i+1) hd2
   simp only [bitsA] at ih
   unfold lpN
   conv=>lhs;arg 2;whnf
   simp +contextual -implicitDefEqProofs (maxSteps:=9^9) only [↓wkA,↓lv97,↓fz97,wuA,↓reduceIte,xA,xB,xC,xD,xE,xF,reduceCtorEq,xH,xI,xJ,xK,xL,xM,xN,xO,hi,hw,hbi,bitsA,bitsA_get,lq97_0,h1,h2,List.all_cons,run193,ih,wbr]
def firstFrom{α:Type}(p:α→Bool):Nat→List α→Int
 | _,[] => -1
 | i,x::r=>br (p x) (i:Int) (firstFrom p (i+1) r)
theorem loop312_0{bs:LI}{g:Nat}{p:Int→Bool}(hg:∀ b∈bs,evW g [.int .u8 b] []=oR (.bool (p b)))(hb:bs.length<4611686018427387904){k:KK}{X:Int→OO}(h1:∀ (j:Nat) fr nx,k .ret ⟨(4,iA j)::fr,[],nx,[]⟩=X j)(h2:∀ fr nx,k (.exit 0) ⟨fr,[],nx,[]⟩=X (-1)) :
  ∀(rest:LI)(i:Nat) ,bs.drop i=rest →  lpN ⟨19,0,kpOf 312,noTab⟩ (lp Tryz.f312 0) ⟨[(0,bitsA bs),(1,.fn g []),(7,iA bs.length),(8,iA i)],[],0,[]⟩ k=X (firstFrom p i rest)
 | [],i,hd=>by
   have hi:=drop_ge hd
   unfold lpN
   conv=>lhs;arg 2;whnf
   simp +contextual -implicitDefEqProofs (maxSteps:=9^9) only [↓wkA,↓lv312,↓fz312,wuA,↓reduceIte,xA,xB,xC,xD,xE,xF,reduceCtorEq,xH,xI,xJ,xK,xL,xM,xN,xO,hi,h1,h2,firstFrom,wbr]
 | b::rest,i,hd=>by
   have hi:=drop_lt hd
   have hbi:=drop_at hd
   have hd2:=drop_nx hd
   have hw:IntKind.i64.wrap ((i:Int)+1)=((i+1:Nat):Int):=wrap_succ (by simp at hi;omega)
   have ih:=loop312_0 hg hb h1 h2 rest (i+1) hd2
   simp only [bitsA] at ih
   have hc:=hg b (List.mem_of_getElem? hbi)
   unfold lpN
   conv=>lhs;arg 2;whnf
   simp +contextual -implicitDefEqProofs (maxSteps:=9^9) only [↓wkA,↓lv312,↓fz312,wuA,↓reduceIte,xA,xB,xC,xD,xE,xF,reduceCtorEq,xH,xI,xJ,xK,xL,xM,xN,xO,hi,hw,hbi,bitsA,bitsA_get,lq312_0,h1,h2,firstFrom,hc,ih,wbr]
def eqFrom:LI→LI→Bool
 | [],_=>true
 | x::r,y::s=>(x==y)&&eqFrom r s
 | _::_,[]=>false
theorem loop199_0{xs bs:LI}(hl:xs.length=bs.length)(hb:xs.length<4611686018427387904){k:KK}{X Y:OO}(h1:∀ fr nx,k .ret ⟨(4,.bool false)::fr,[],nx,[]⟩=X)(h2:∀ fr nx,k (.exit 0) ⟨fr,[],nx,[]⟩=Y) :
  ∀(rest:LI)(i:Nat) ,xs.drop i=rest →  lpN ⟨26,0,kpOf 199,tb199⟩ (lp Tryz.f199 0) ⟨[(0,bitsA xs),(1,bitsA bs),(12,iA xs.length),(13,iA i)],[],0,[]⟩ k=br (eqFrom rest (bs.drop i)) Y X
 | [],i,hd=>by
   have hi:=drop_ge hd
   unfold lpN
   conv=>lhs;arg 2;whnf
   simp +contextual -implicitDefEqProofs (maxSteps:=9^9) only [↓wkA,↓lv199,↓fz199,↓tbr199,wuA,↓reduceIte,xA,xB,xC,xD,xE,xF,reduceCtorEq,xH,xI,xJ,xK,xL,xM,xN,xO,hi,h1,h2,eqFrom,wbr]
 | b::rest,i,hd=>by
   have hi:=drop_lt hd
   have hbi:=drop_at hd
   have hd2:=drop_nx hd
   have hw:IntKind.i64.wrap ((i:Int)+1)=((i+1:Nat):Int):=wrap_succ (by simp at hi;omega)
   obtain⟨c,hc⟩:∃ c,bs[i]?=some c:=by
    simp at hi
    exact⟨_,List.getElem?_eq_getElem (by omega)⟩
   have hdc:bs.drop i=c::bs.drop (i+1):=by
    obtain⟨hlt,e⟩:=List.getElem?_eq_some_iff.1 hc
    rw [List.drop_eq_getElem_cons hlt,e]
   have ih:=loop199_0 hl hb h1 h2 rest (i+1) hd2
   simp only [bitsA] at ih
   unfold lpN
   conv=>lhs;arg 2;whnf
   simp +contextual -implicitDefEqProofs (maxSteps:=9^9) only [↓wkA,↓lv199,↓fz199,↓tbr199,wuA,↓reduceIte,xA,xB,xC,xD,xE,xF,reduceCtorEq,xH,xI,xJ,xK,xL,xM,xN,xO,hi,hw,hbi,bitsA,bitsA_get,lq199_0,h1,h2,hdc,eqFrom,hc,ih,wbr]
theorem loop59_0{xs bs:LI}(hl:xs.length=bs.length)(hb:xs.length<4611686018427387904){k:KK}{X Y:OO}(h1:∀ fr nx,k .ret ⟨(4,.bool false)::fr,[],nx,[]⟩=X)(h2:∀ fr nx,k (.exit 0) ⟨fr,[],nx,[]⟩=Y) :
  ∀(rest:LI)(i:Nat) ,xs.drop i=rest →  lpN ⟨26,0,kpOf 59,tb59⟩ (lp Tryz.f59 0) ⟨[(0,bitsA xs),(1,bitsA bs),(12,iA xs.length),(13,iA i)],[],0,[]⟩ k=br (eqFrom rest (bs.drop i)) Y X
 | [],i,hd=>by
   have hi:=drop_ge hd
   unfold lpN
   conv=>lhs;arg 2;whnf
   simp +contextual -implicitDefEqProofs (maxSteps:=9^9) only [↓wkA,↓lv59,↓fz59,↓tbr59,wuA,↓reduceIte,xA,xB,xC,xD,xE,xF,reduceCtorEq,xH,xI,xJ,xK,xL,xM,xN,xO,hi,h1,h2,eqFrom,wbr]
 | b::rest,i,hd=>by
   have hi:=drop_lt hd
   have hbi:=drop_at hd
   have hd2:=drop_nx hd
   have hw:IntKind.i64.wrap ((i:Int)+1)=((i+1:Nat):Int):=wrap_succ (by simp at hi;omega)
   obtain⟨c,hc⟩:∃ c,bs[i]?=some c:=by
    simp at hi
    exact⟨_,List.getElem?_eq_getElem (by omega)⟩
   have hdc:bs.drop i=c::bs.drop (i+1):=by
    obtain⟨hlt,e⟩:=List.getElem?_eq_some_iff.1 hc
    rw [List.drop_eq_getElem_cons hlt,e]
   have ih:=loop59_0 hl hb h1 h2 rest (i+1) hd2
   simp only [bitsA] at ih
   unfold lpN
   conv=>lhs;arg 2;whnf
   simp +contextual -implicitDefEqProofs (maxSteps:=9^9) only [↓wkA,↓lv59,↓fz59,↓tbr59,wuA,↓reduceIte,xA,xB,xC,xD,xE,xF,reduceCtorEq,xH,xI,xJ,xK,xL,xM,xN,xO,hi,hw,hbi,bitsA,bitsA_get,lq59_0,h1,h2,hdc,eqFrom,hc,ih,wbr]
def maxF(m:Int):LI→Int
 | []=>m
 | x::r=>maxF (if x>m then x else m) r
theorem loop296_0{bs:LI}(hb:bs.length<4611686018427387904){k:KK}{X:Int→OO}(h2:∀ m fr nx,look 3 fr=some (.int .u8 m)→k (.exit 0) ⟨fr,[],nx,[]⟩=X m) :
  ∀(rest:LI)(i:Nat)(m:Int),bs.drop i=rest →  lpN ⟨25,0,kpOf 296,noTab⟩ (lp Tryz.f296 0) ⟨[(0,bitsA bs),(3,.int .u8 m),(4,iA i)],[],0,[]⟩ k=X (maxF m rest)
 | [],i,m,hd=>by
   have hi:=drop_ge hd
   have h3:=h2 m
   unfold lpN
   conv=>lhs;arg 2;whnf
   simp +contextual -implicitDefEqProofs (maxSteps:=9^9) only [↓wkA,↓lv296,↓fz296,wuA,↓reduceIte,xA,xB,xC,xD,xE,xF,reduceCtorEq,xH,xI,xJ,xK,xL,xM,xN,xO,hi,h3,maxF,bitsA,wbr]
 | b::rest,i,m,hd=>by
   have hi:=drop_lt hd
   have hbi:=drop_at hd
   have hd2:=drop_nx hd
   have hw:IntKind.i64.wrap ((i:Int)+1)=((i+1:Nat):Int):=wrap_succ (by simp at hi;omega)
   have ih:=fun m=>loop296_0 hb h2 rest (i+1) m hd2
   simp only [bitsA] at ih
   unfold lpN
   conv=>lhs;arg 2;whnf
   simp +contextual -implicitDefEqProofs (maxSteps:=9^9) only [↓wkA,↓lv296,↓fz296,wuA,↓reduceIte,xA,xB,xC,xD,xE,xF,reduceCtorEq,xH,xI,xJ,xK,xL,xM,xN,xO,hi,hw,hbi,bitsA,bitsA_get,lq296_0,h2,maxF,ih,mmT2,wbr]
theorem loop268_0{bs:LI}(hb:bs.length<4611686018427387904){k:KK}{X:Int→OO}(h2:∀ m fr nx,look 3 fr=some (.int .u8 m)→k (.exit 0) ⟨fr,[],nx,[]⟩=X m) :
  ∀(rest:LI)(i:Nat)(m:Int),bs.drop i=rest →  lpN ⟨25,0,kpOf 268,noTab⟩ (lp Tryz.f268 0) ⟨[(0,bitsA bs),(3,.int .u8 m),(4,iA i)],[],0,[]⟩ k=X (maxF m rest)
 | [],i,m,hd=>by
   have hi:=drop_ge hd
   have h3:=h2 m
   unfold lpN
   conv=>lhs;arg 2;whnf
   simp +contextual -implicitDefEqProofs (maxSteps:=9^9) only [↓wkA,↓lv268,↓fz268,wuA,↓reduceIte,xA,xB,xC,xD,xE,xF,reduceCtorEq,xH,xI,xJ,xK,xL,xM,xN,xO,hi,h3,maxF,bitsA,wbr]
 | b::rest,i,m,hd=>by
   have hi:=drop_lt hd
   have hbi:=drop_at hd
   have hd2:=drop_nx hd
   have hw:IntKind.i64.wrap ((i:Int)+1)=((i+1:Nat):Int):=wrap_succ (by simp at hi;omega)
   have ih:=fun m=>loop268_0 hb h2 rest (i+1) m hd2
   simp only [bitsA] at ih
   unfold lpN
   conv=>lhs;arg 2;whnf
   simp +contextual -implicitDefEqProofs (maxSteps:=9^9) only [↓wkA,↓lv268,↓fz268,wuA,↓reduceIte,xA,xB,xC,xD,xE,xF,reduceCtorEq,xH,xI,xJ,xK,xL,xM,xN,xO,hi,hw,hbi,bitsA,bitsA_get,lq268_0,h2,maxF,ih,mmT2,wbr]
theorem run97{bs:LI}(hb:bs.length<4611686018427387904):evW 97 [bitsA bs] []=oR (.bool (bs.all isBitB&&(decide ((1:Int)≤(bs.length:Nat))&&decide (((bs.length:Nat):Int)≤64)))):=by
 rw [w97 rfl]
 conv=>lhs;arg 2;whnf
 simp +contextual -implicitDefEqProofs (maxSteps:=9^9) only [↓wkA,↓lv97,↓fz97,wuA,↓reduceIte,xA,xB,xC,xD,xE,xF,reduceCtorEq,xH,xI,xJ,xK,xL,xM,xN,xO,bitsA,wbr]
 refine(lpX_code (c':=lp Tryz.f97 0) (by kernel_rfl)).trans ?_
 rw [lq97_0]
 simp +contextual -implicitDefEqProofs (maxSteps:=9^9) only [↓wkA,↓lv97,↓fz97,wuA,↓reduceIte,xA,xB,xC,xD,xE,xF,reduceCtorEq,xH,xI,xJ,xK,xL,xM,xN,xO,bitsA,wbr]
 refine(loop97_0 (X:=oR (.bool false)) (Y:=oR (.bool (decide ((1:Int)≤(bs.length:Nat))&&decide (((bs.length:Nat):Int)≤64)))) hb ?_ ?_ bs 0 rfl).trans ?_
 ·intro fr nx
  simp +contextual -implicitDefEqProofs (maxSteps:=9^9) only [↓wkA,↓lv97,↓fz97,wuA,↓reduceIte,xA,xB,xC,xD,xE,xF,reduceCtorEq,xH,xI,xJ,xK,xL,xM,xN,xO,bitsA,wbr]
 ·intro fr nx hl
  simp +contextual -implicitDefEqProofs (maxSteps:=9^9) only [↓wkA,↓lv97,↓fz97,wuA,↓reduceIte,xA,xB,xC,xD,xE,xF,reduceCtorEq,xH,xI,xJ,xK,xL,xM,xN,xO,hl,bitsA,wbr]
 cases bs.all isBitB<;>rfl
theorem run312{bs:LI}{g:Nat}{p:Int→Bool}(hg:∀ b∈bs,evW g [.int .u8 b] []=oR (.bool (p b)))(hb:bs.length<4611686018427387904):evW 312 [bitsA bs,.fn g []] []=oR (iA (firstFrom p 0 bs)):=by
 rw [w312 rfl]
 conv=>lhs;arg 2;whnf
 simp +contextual -implicitDefEqProofs (maxSteps:=9^9) only [↓wkA,↓lv312,↓fz312,wuA,↓reduceIte,xA,xB,xC,xD,xE,xF,reduceCtorEq,xH,xI,xJ,xK,xL,xM,xN,xO,bitsA,wbr]
 refine(lpX_code (c':=lp Tryz.f312 0) (by kernel_rfl)).trans ?_
 rw [lq312_0]
 simp +contextual -implicitDefEqProofs (maxSteps:=9^9) only [↓wkA,↓lv312,↓fz312,wuA,↓reduceIte,xA,xB,xC,xD,xE,xF,reduceCtorEq,xH,xI,xJ,xK,xL,xM,xN,xO,bitsA,wbr]
 refine(loop312_0 (p:=p) (X:=fun z=>oR (iA z)) hg hb ?_ ?_ bs 0 rfl).trans ?_
 ·intro j fr nx
  simp +contextual -implicitDefEqProofs (maxSteps:=9^9) only [↓wkA,↓lv312,↓fz312,wuA,↓reduceIte,xA,xB,xC,xD,xE,xF,reduceCtorEq,xH,xI,xJ,xK,xL,xM,xN,xO,bitsA,wbr]
 ·intro fr nx
  simp +contextual -implicitDefEqProofs (maxSteps:=9^9) only [↓wkA,↓lv312,↓fz312,wuA,↓reduceIte,xA,xB,xC,xD,xE,xF,reduceCtorEq,xH,xI,xJ,xK,xL,xM,xN,xO,bitsA,wbr]
 rfl
theorem firstFrom_any{α:Type}{p:α→Bool}:∀(l:List α)(i:Nat),decide ((0:Int)≤firstFrom p i l)=l.any p
 | [],i=>rfl
 | x::l,i=>by
   simp only [firstFrom,List.any_cons]
   by_cases h:p x=true
   ·simp [h,br]
   ·have h:p x=false:=by simpa using h
    simp only [h,br,Bool.false_or]
    exact firstFrom_any l (i+1)
theorem run262{bs:LI}{g:Nat}{p:Int→Bool}(hg:∀ b∈bs,evW g [.int .u8 b] []=oR (.bool (p b)))(hb:bs.length<4611686018427387904):evW 262 [bitsA bs,.fn g []] []=oR (.bool (bs.any p)):=by
 have h3:=run312 (p:=p) hg hb
 simp only [bitsA] at h3
 rw [w262 rfl]
 conv=>lhs;arg 2;whnf
 simp +contextual -implicitDefEqProofs (maxSteps:=9^9) only [↓wkA,↓lv262,↓fz262,wuH,↓reduceIte,xA,xB,xC,xD,xE,xF,reduceCtorEq,xH,xI,xJ,xK,xL,xM,xN,xO,bitsA,h3,firstFrom_any,wbr]
def isP(bs:LI):Bool:=decide ((1:Int)≤(bs.length:Nat))&&(decide (((bs.length:Nat):Int)≤64) && !(bs.any fun b => !decide (b≤3)))
theorem run188{bs:LI}(hb:bs.length<4611686018427387904):evW 188 [bitsA bs] []=oR (.bool (isP bs)):=by
 have h3:=run262 (bs:=bs) (g:=263) (p:=fun b => !decide (b≤3)) (fun b _=>run263) hb
 simp only [bitsA] at h3
 rw [w188 rfl]
 conv=>lhs;arg 2;whnf
 simp +contextual -implicitDefEqProofs (maxSteps:=9^9) only [↓wkA,↓lv188,↓fz188,wuH,↓reduceIte,xA,xB,xC,xD,xE,xF,reduceCtorEq,xH,xI,xJ,xK,xL,xM,xN,xO,bitsA,h3,isP,wbr]
theorem run199{xs bs:LI}(hb:xs.length<4611686018427387904):evW 199 [bitsA xs,bitsA bs] []=oR (.bool (decide (((xs.length:Nat):Int)=(bs.length:Nat))&&eqFrom xs bs)):=by
 cases hl:decide (((xs.length:Nat):Int)=(bs.length:Nat)) with
 | false =>
   have hl2:((((xs.length:Nat):Int))==(bs.length:Nat))=false:=by simpa using hl
   rw [w199 rfl]
   conv=>lhs;arg 2;whnf
   simp +contextual -implicitDefEqProofs (maxSteps:=9^9) only [↓wkA,↓lv199,↓fz199,↓tbr199,wuA,↓reduceIte,xA,xB,xC,xD,xE,xF,reduceCtorEq,xH,xI,xJ,xK,xL,xM,xN,xO,bitsA,hl2,wbr]
 | true =>
   have hl2:((((xs.length:Nat):Int))==(bs.length:Nat))=true:=by simpa using hl
   have hl3:xs.length=bs.length:=by have:=of_decide_eq_true hl;omega
   rw [w199 rfl]
   conv=>lhs;arg 2;whnf
   simp +contextual -implicitDefEqProofs (maxSteps:=9^9) only [↓wkA,↓lv199,↓fz199,↓tbr199,wuA,↓reduceIte,xA,xB,xC,xD,xE,xF,reduceCtorEq,xH,xI,xJ,xK,xL,xM,xN,xO,bitsA,hl2,wbr]
   refine(lpX_code (c':=lp Tryz.f199 0) (by kernel_rfl)).trans ?_
   rw [lq199_0]
   simp +contextual -implicitDefEqProofs (maxSteps:=9^9) only [↓wkA,↓lv199,↓fz199,↓tbr199,wuA,↓reduceIte,xA,xB,xC,xD,xE,xF,reduceCtorEq,xH,xI,xJ,xK,xL,xM,xN,xO,bitsA,hl2,wbr]
   refine(loop199_0 (X:=oR (.bool false)) (Y:=oR (.bool true)) hl3 hb ?_ ?_ xs 0 rfl).trans ?_
   ·intro fr nx
    simp +contextual -implicitDefEqProofs (maxSteps:=9^9) only [↓wkA,↓lv199,↓fz199,↓tbr199,wuA,↓reduceIte,xA,xB,xC,xD,xE,xF,reduceCtorEq,xH,xI,xJ,xK,xL,xM,xN,xO,wbr]
   ·intro fr nx
    simp +contextual -implicitDefEqProofs (maxSteps:=9^9) only [↓wkA,↓lv199,↓fz199,↓tbr199,wuA,↓reduceIte,xA,xB,xC,xD,xE,xF,reduceCtorEq,xH,xI,xJ,xK,xL,xM,xN,xO,wbr]
   ·simp only [List.drop_zero]
    cases eqFrom xs bs<;>rfl
theorem run59{xs bs:LI}(hb:xs.length<4611686018427387904):evW 59 [bitsA xs,bitsA bs] []=oR (.bool (decide (((xs.length:Nat):Int)=(bs.length:Nat))&&eqFrom xs bs)):=by
 cases hl:decide (((xs.length:Nat):Int)=(bs.length:Nat)) with
 | false =>
   have hl2:((((xs.length:Nat):Int))==(bs.length:Nat))=false:=by simpa using hl
   rw [w59 rfl]
   conv=>lhs;arg 2;whnf
   simp +contextual -implicitDefEqProofs (maxSteps:=9^9) only [↓wkA,↓lv59,↓fz59,↓tbr59,wuA,↓reduceIte,xA,xB,xC,xD,xE,xF,reduceCtorEq,xH,xI,xJ,xK,xL,xM,xN,xO,bitsA,hl2,wbr]
 | true =>
   have hl2:((((xs.length:Nat):Int))==(bs.length:Nat))=true:=by simpa using hl
   have hl3:xs.length=bs.length:=by have:=of_decide_eq_true hl;omega
   rw [w59 rfl]
   conv=>lhs;arg 2;whnf
   simp +contextual -implicitDefEqProofs (maxSteps:=9^9) only [↓wkA,↓lv59,↓fz59,↓tbr59,wuA,↓reduceIte,xA,xB,xC,xD,xE,xF,reduceCtorEq,xH,xI,xJ,xK,xL,xM,xN,xO,bitsA,hl2,wbr]
   refine(lpX_code (c':=lp Tryz.f59 0) (by kernel_rfl)).trans ?_
   rw [lq59_0]
   simp +contextual -implicitDefEqProofs (maxSteps:=9^9) only [↓wkA,↓lv59,↓fz59,↓tbr59,wuA,↓reduceIte,xA,xB,xC,xD,xE,xF,reduceCtorEq,xH,xI,xJ,xK,xL,xM,xN,xO,bitsA,hl2,wbr]
   refine(loop59_0 (X:=oR (.bool false)) (Y:=oR (.bool true)) hl3 hb ?_ ?_ xs 0 rfl).trans ?_
   ·intro fr nx
    simp +contextual -implicitDefEqProofs (maxSteps:=9^9) only [↓wkA,↓lv59,↓fz59,↓tbr59,wuA,↓reduceIte,xA,xB,xC,xD,xE,xF,reduceCtorEq,xH,xI,xJ,xK,xL,xM,xN,xO,wbr]
   ·intro fr nx
    simp +contextual -implicitDefEqProofs (maxSteps:=9^9) only [↓wkA,↓lv59,↓fz59,↓tbr59,wuA,↓reduceIte,xA,xB,xC,xD,xE,xF,reduceCtorEq,xH,xI,xJ,xK,xL,xM,xN,xO,wbr]
   ·simp only [List.drop_zero]
    cases eqFrom xs bs<;>rfl
theorem run296{x:Int}{bs:LI}(hb:(x::bs).length<4611686018427387904):evW 296 [bitsA (x::bs)] []=oR (.int .u8 (maxF x bs)):=by
 have hlt:decide ((((x::bs).length:Nat):Int)<1)=false:=by simp;omega
 have hg:((x::bs).map fun b=>[AV.int .u8 b])[0]?=some [AV.int .u8 x]:=rfl
 rw [w296 rfl]
 conv=>lhs;arg 2;whnf
 have ef:bitsA (x::bs) = .sl 1 ((x::bs).map fun b=>[AV.int .u8 b]):=rfl
 generalize hm:((x::bs).map fun b=>[AV.int .u8 b])=es at hg ef
 have hlen:es.length=(x::bs).length:=by rw [← hm,List.length_map]
 rw [ef]
 generalize (x::bs).length=n at hlt hlen
 simp +contextual -implicitDefEqProofs (maxSteps:=9^9) only [↓wkA,↓lv296,↓fz296,wuA,↓reduceIte,xA,xB,xC,xD,xE,xF,reduceCtorEq,xH,xI,xJ,xK,xL,xM,xN,xO,hlt,hlen,hg,wbr]
 refine(lpX_code (c':=lp Tryz.f296 0) (by kernel_rfl)).trans ?_
 rw [lq296_0]
 simp +contextual -implicitDefEqProofs (maxSteps:=9^9) only [↓wkA,↓lv296,↓fz296,wuA,↓reduceIte,xA,xB,xC,xD,xE,xF,reduceCtorEq,xH,xI,xJ,xK,xL,xM,xN,xO,hlt,hlen,hg,wbr]
 subst hm
 refine(loop296_0 (bs:=x::bs) (X:=fun m=>oR (.int .u8 m)) hb ?_ bs 1 x rfl).trans ?_
 ·intro m fr nx hl
  simp +contextual -implicitDefEqProofs (maxSteps:=9^9) only [↓wkA,↓lv296,↓fz296,wuA,↓reduceIte,xA,xB,xC,xD,xE,xF,reduceCtorEq,xH,xI,xJ,xK,xL,xM,xN,xO,hl,wbr]
 ·rfl
theorem run268{x:Int}{bs:LI}(hb:(x::bs).length<4611686018427387904):evW 268 [bitsA (x::bs)] []=oR (.int .u8 (maxF x bs)):=by
 have hlt:decide ((((x::bs).length:Nat):Int)<1)=false:=by simp;omega
 have hg:((x::bs).map fun b=>[AV.int .u8 b])[0]?=some [AV.int .u8 x]:=rfl
 rw [w268 rfl]
 conv=>lhs;arg 2;whnf
 have ef:bitsA (x::bs) = .sl 1 ((x::bs).map fun b=>[AV.int .u8 b]):=rfl
 generalize hm:((x::bs).map fun b=>[AV.int .u8 b])=es at hg ef
 have hlen:es.length=(x::bs).length:=by rw [← hm,List.length_map]
 rw [ef]
 generalize (x::bs).length=n at hlt hlen
 simp +contextual -implicitDefEqProofs (maxSteps:=9^9) only [↓wkA,↓lv268,↓fz268,wuA,↓reduceIte,xA,xB,xC,xD,xE,xF,reduceCtorEq,xH,xI,xJ,xK,xL,xM,xN,xO,hlt,hlen,hg,wbr]
 refine(lpX_code (c':=lp Tryz.f268 0) (by kernel_rfl)).trans ?_
 rw [lq268_0]
 simp +contextual -implicitDefEqProofs (maxSteps:=9^9) only [↓wkA,↓lv268,↓fz268,wuA,↓reduceIte,xA,xB,xC,xD,xE,xF,reduceCtorEq,xH,xI,xJ,xK,xL,xM,xN,xO,hlt,hlen,hg,wbr]
 subst hm
 refine(loop268_0 (bs:=x::bs) (X:=fun m=>oR (.int .u8 m)) hb ?_ bs 1 x rfl).trans ?_
 ·intro m fr nx hl
  simp +contextual -implicitDefEqProofs (maxSteps:=9^9) only [↓wkA,↓lv268,↓fz268,wuA,↓reduceIte,xA,xB,xC,xD,xE,xF,reduceCtorEq,xH,xI,xJ,xK,xL,xM,xN,xO,hl,wbr]
 ·rfl
def numS(m:Int)(i:Nat)(b:Int):Int:=IntKind.u64.wrap ((BitVec.ofInt IntKind.u64.bits m ||| BitVec.ofInt IntKind.u64.bits (IntKind.u64.wrap (IntKind.u64.wrap (IntKind.u8.wrap ((BitVec.ofInt IntKind.u8.bits b &&& BitVec.ofInt IntKind.u8.bits 1).toNat:Nat))*2^(min i IntKind.u64.bits)))).toNat:Nat)
def numF:Int→Nat→LI→Int
 | m,_,[]=>m
 | m,i,b::r=>numF (numS m i b) (i+1) r
def bitS(k:Int)(i:Nat):Int:=IntKind.u8.wrap (IntKind.u64.wrap ((BitVec.ofInt IntKind.u64.bits (k.fdiv (2^(min i IntKind.u64.bits))) &&& BitVec.ofInt IntKind.u64.bits 1).toNat:Nat))
theorem neg_cast{i:Nat}:decide ((i:Int)<0)=false:=by simp
theorem loop198_0{bs:LI}(hb:bs.length<4611686018427387904){k:KK}{X:Int→OO}(h2:∀ m fr nx,look 3 fr=some (.int .u64 m)→k (.exit 0) ⟨fr,[],nx,[]⟩=X m) :
  ∀(rest:LI)(i:Nat)(m:Int),bs.drop i=rest →  lpN ⟨22,0,kpOf 198,noTab⟩ (lp Tryz.f198 0) ⟨[(3,.int .u64 m),(6,bitsA bs),(7,iA bs.length),(8,iA i)],[],0,[]⟩ k=X (numF m i rest)
 | [],i,m,hd=>by
   have hi:=drop_ge hd
   have h3:=h2 m
   unfold lpN
   conv=>lhs;arg 2;whnf
   simp +contextual -implicitDefEqProofs (maxSteps:=9^9) only [↓wkA,↓lv198,↓fz198,wuA,↓reduceIte,xA,xB,xC,xD,xE,xF,reduceCtorEq,xH,xI,xJ,xK,xL,xM,xN,xO,hi,h3,numF,bitsA,wbr]
 | b::rest,i,m,hd=>by
   have hi:=drop_lt hd
   have hbi:=drop_at hd
   have hd2:=drop_nx hd
   have hw:IntKind.i64.wrap ((i:Int)+1)=((i+1:Nat):Int):=wrap_succ (by simp at hi;omega)
   have ih:=fun m=>loop198_0 hb h2 rest (i+1) m hd2
   simp only [bitsA] at ih
   unfold lpN
   conv=>lhs;arg 2;whnf
   simp +contextual -implicitDefEqProofs (maxSteps:=9^9) only [↓wkA,↓lv198,↓fz198,wuA,↓reduceIte,xA,xB,xC,xD,xE,xF,reduceCtorEq,xH,xI,xJ,xK,xL,xM,xN,xO,hi,hw,hbi,bitsA,bitsA_get,lq198_0,numF,numS,ih,neg_cast,bin_shl,wbr]
theorem run198{bs:LI}(hb:bs.length<4611686018427387904):evW 198 [bitsA bs] []=oR (.int .u64 (numF 0 0 bs)):=by
 rw [w198 rfl]
 conv=>lhs;arg 2;whnf
 simp +contextual -implicitDefEqProofs (maxSteps:=9^9) only [↓wkA,↓lv198,↓fz198,wuA,↓reduceIte,xA,xB,xC,xD,xE,xF,reduceCtorEq,xH,xI,xJ,xK,xL,xM,xN,xO,wbr]
 refine(lpX_code (c':=lp Tryz.f198 0) (by kernel_rfl)).trans ?_
 rw [lq198_0]
 try simp +contextual -implicitDefEqProofs (maxSteps:=9^9) only [↓wkA,↓lv198,↓fz198,wuA,↓reduceIte,xA,xB,xC,xD,xE,xF,reduceCtorEq,xH,xI,xJ,xK,xL,xM,xN,xO,wbr]
 refine(loop198_0 (X:=fun m=>oR (.int .u64 m)) hb ?_ bs 0 0 rfl).trans ?_
 ·intro m fr nx hl
  simp +contextual -implicitDefEqProofs (maxSteps:=9^9) only [↓wkA,↓lv198,↓fz198,wuA,↓reduceIte,xA,xB,xC,xD,xE,xF,reduceCtorEq,xH,xI,xJ,xK,xL,xM,xN,xO,hl,wbr]
 rfl
def ofL(k:Int):Nat→Nat→LI→LI
 | 0,_,xs=>xs
 | r+1,i,xs=>ofL k r (i+1) (xs.set i (bitS k i))
theorem loop197{k0:Int}{n:Nat}(hb:n<4611686018427387904){k:KK}{X:LI→OO}
  (h2:∀(xs:LI) fr nx,xs.length=n→look 5 fr=some (.row 0 0 n)→k (.exit 0) ⟨fr,[(0,.arr 162 1 (xs.map fun b=>[.int .u8 b]))],nx,[]⟩=X xs) :
  ∀(r i:Nat)(xs:LI),i+r=n→xs.length=n→lpN ⟨24,0,kpOf 197,noTab⟩ (lp Tryz.f197 0) ⟨[(0,.int .u64 k0),(5,.row 0 0 n),(10,iA n),(11,iA i)],[(0,.arr 162 1 (xs.map fun b=>[.int .u8 b]))],1,[]⟩ k=X (ofL k0 r i xs)
 | 0,i,xs,hr,hx=>by
   have hi:decide ((i:Int)<(n:Nat))=false:=by simp;omega
   have h3:=fun fr nx=>h2 xs fr nx hx
   unfold lpN
   conv=>lhs;arg 2;whnf
   simp +contextual -implicitDefEqProofs (maxSteps:=9^9) only [↓wkA,↓lv197,↓fz197,wuH,↓reduceIte,xA,xB,xC,xD,xE,xF,reduceCtorEq,xH,xI,xJ,xK,xL,xM,xN,xO,hi,h3,ofL,wbr]
 | r+1,i,xs,hr,hx=>by
   have hi:decide ((i:Int)<(n:Nat))=true:=by simp;omega
   have hi2:decide (i<n∧0+n≤xs.length∧1=1)=true:=by simp;omega
   have hi3:i<n:=by omega
   have hi4:n≤xs.length:=by omega
   obtain⟨c,hc⟩:∃ c,xs[i]?=some c:=⟨_,List.getElem?_eq_getElem (by omega)⟩
   have hw:IntKind.i64.wrap ((i:Int)+1)=((i+1:Nat):Int):=wrap_succ (by omega)
   have ih:=loop197 (k0:=k0) hb h2 r (i+1) (xs.set i (bitS k0 i)) (by omega) (by rw [List.length_set];exact hx)
   simp only [bitS] at ih
   unfold lpN
   conv=>lhs;arg 2;whnf
   simp +contextual -implicitDefEqProofs (maxSteps:=9^9) only [↓wkA,↓lv197,↓fz197,wuH,↓reduceIte,xA,xB,xC,xD,xE,xF,reduceCtorEq,xH,xI,xJ,xK,xL,xM,xN,xO,hi,hi3,hi4,hw,hc,bitsA_get,ofL,bitS,ih,neg_cast,bin_shr,lq197_0,decide_eq_true_eq,wbr]
theorem run197{k0:Int}{n:Nat}(hb:n≤1000000):evW 197 [.int .u64 k0,iA n] []=oR (bitsA (ofL k0 n 0 (List.replicate n 0))):=by
 have hm:decide ((0:Int)≤n∧(n:Int)≤1000000)=true:=by simp;omega
 have hnl:(List.replicate n (0:Int)).length=n:=List.length_replicate
 have hlen:∀(r i:Nat)(xs:LI),(ofL k0 r i xs).length=xs.length:=by
  intro r
  induction r with
  | zero=>intro i xs;rfl
  | succ r ih=>intro i xs;simp only [ofL,ih,List.length_set]
 have hle:decide (0+n≤(ofL k0 n 0 (List.replicate n 0)).length)=true:=by rw [hlen];simp
 rw [w197 rfl]
 conv=>lhs;arg 2;whnf
 simp +contextual -implicitDefEqProofs (maxSteps:=9^9) only [↓wkA,↓lv197,↓fz197,wuH,↓reduceIte,xA,xB,xC,xD,xE,xF,reduceCtorEq,xH,xI,xJ,xK,xL,xM,xN,xO,hm,rep8,wbr]
 refine(lpX_code (c':=lp Tryz.f197 0) (by kernel_rfl)).trans ?_
 rw [lq197_0]
 simp +contextual -implicitDefEqProofs (maxSteps:=9^9) only [↓wkA,↓lv197,↓fz197,wuH,↓reduceIte,xA,xB,xC,xD,xE,xF,reduceCtorEq,xH,xI,xJ,xK,xL,xM,xN,xO,rep8,wbr]
 refine(loop197 (n:=n) (X:=fun xs=>oR (bitsA xs)) (by omega) ?_ n 0 (List.replicate n 0) (by omega) (by simp)).trans ?_
 ·intro xs fr nx hx hl
  have hd:decide (n≤xs.length)=true:=by simp;omega
  have htk:List.take n (xs.map fun b=>[AV.int .u8 b])=xs.map fun b=>[AV.int .u8 b]:=List.take_of_length_le (by rw [List.length_map];omega)
  simp +contextual -implicitDefEqProofs (maxSteps:=9^9) only [↓wkA,↓lv197,↓fz197,wuH,↓reduceIte,xA,xB,xC,xD,xE,xF,reduceCtorEq,xH,xI,xJ,xK,xL,xM,xN,xO,hl,hd,htk,bitsA,wbr]
 ·rfl
end Go.Proofs.YtdhcgankmhpgeaaGreat.M
