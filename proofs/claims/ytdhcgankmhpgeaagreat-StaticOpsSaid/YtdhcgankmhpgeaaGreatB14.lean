import Derived.Test.YtdhcgankmhpgeaaGreatB13
set_option linter.all false
namespace Go.Proofs.YtdhcgankmhpgeaaGreat.M
open Go
open Nat renaming reduceEqDiff → xA, reduceLT → xB, reduceAdd → xC, reduceMul → xD, reduceSub → xE, reduceDiv → xF, reduceLeDiff → xN
open Int renaming reduceAdd → xH, reduceLE → xI, reduceLT → xJ, reduceToNat → xK, reduceEq → xL, reduceBEq → xM
open UInt8 renaming reduceToNat → xO
set_option maxRecDepth 100000
set_option maxHeartbeats 4000000
attribute [local congr] br_congr ob2_congr cnd_congr gdK_congr ob_congr clK_congr finK_congr reg_congr pkK_congr kTK_congr dlT_congr gck_congr iff2_congr sel_congr dPn_congr apJ_congr nmK_congr kTo_congr fzO_congr rcK_congr lvB_congr crK_congr cdB_congr
def namesF(L:LB):Nat→LB→Bool
 | _,[]=>true
 | i,x::r=>(nameP x && !((L.take i).any fun y=>x==y))&&namesF L (i+1) r
theorem loop186_0{L:LB}{ki li:Int}{s:LU}{es:LA}(hb:L.length<4611686018427387904){k:KK}{X Y:OO}(h1:∀ fr hp nx,k .ret ⟨(2,.bool false)::fr,hp,nx,[]⟩=X)(h2:∀ fr hp nx,k (.exit 0) ⟨fr,hp,nx,[]⟩=Y) :
  ∀(rest:LB)(i:Nat) ,L.drop i=rest→lpN ⟨51,0,kpOf 186,noTab⟩ (lp Tryz.f186 0) ⟨[(1,.ptr 0 0),(32,.sl 1 (L.map sC)),(33,iA L.length),(34,iA i)],[(0,.var 38 [iA ki,iA li,.str s,.sl 1 (L.map sC),.sl 5 es])],1,[]⟩ k=br (namesF L i rest) Y X
 | [],i,hd=>by
   have hi:=drop_ge hd
   unfold lpN
   conv=>lhs;arg 2;whnf
   simp +contextual -implicitDefEqProofs (maxSteps:=9^9) only [↓wkA,↓lv186,↓fz186,wuH,↓reduceIte,xA,xB,xC,xD,xE,xF,reduceCtorEq,xH,xI,xJ,xK,xL,xM,xN,xO,hi,h1,h2,namesF,wbr]
 | b::rest,i,hd=>by
   have hi:=drop_lt hd
   have hbi:=drop_at hd
   have hd2:=drop_nx hd
   have hw:IntKind.i64.wrap ((i:Int)+1)=((i+1:Nat):Int):=wrap_succ (by simp at hi;omega)
   have ih:=loop186_0 (ki:=ki) (li:=li) (s:=s) (es:=es) hb h1 h2 rest (i+1) hd2
   have hlt:i<L.length:=by simpa using hi
   have h4:=run140s (L:=L.take i) (s:=b) (by simp;omega)
   rw [List.map_take] at h4
   have hiN:decide (i≤L.length)=true:=by simp;omega
   unfold lpN
   conv=>lhs;arg 2;whnf
   simp +contextual -implicitDefEqProofs (maxSteps:=9^9) only [↓wkA,↓lv186,↓fz186,wuH,↓reduceIte,xA,xB,xC,xD,xE,xF,reduceCtorEq,xH,xI,xJ,xK,xL,xM,xN,xO,hi,hw,hbi,map_get,lq186_0,h1,h2,namesF,run261,ih,h4,hiN,wbr]
theorem run186x0G:(∀{L:LB}{ki li:Int}{s:LU}{es:LA}(q0:(s==[])=true),evW 186 [tv ki li s (L.map sC) es] []=oR (.bool false))∧(∀{L:LB}{ki li:Int}{s:LU}{es:LA}(q0:(s==[])=false)(q1:decide ((100:Int)<(s.length:Nat))=true),evW 186 [tv ki li s (L.map sC) es] []=oR (.bool false))∧(∀{L:LB}{ki li:Int}{s:LU}{es:LA}(q0:(s==[])=false)(q1:decide ((100:Int)<(s.length:Nat))=false)(q2:(s.any fun b=>oddN b.toNat)=true),evW 186 [tv ki li s (L.map sC) es] []=oR (.bool false))∧(∀{L:LB}{ki li:Int}{s:LU}{es:LA}(q0:(s==[])=false)(q1:decide ((100:Int)<(s.length:Nat))=false)(q2:(s.any fun b=>oddN b.toNat)=false)(q3:decide (((L.length:Nat):Int)<1)=true),evW 186 [tv ki li s (L.map sC) es] []=oR (.bool false))∧(∀{L:LB}{ki li:Int}{s:LU}{es:LA}(q0:(s==[])=false)(q1:decide ((100:Int)<(s.length:Nat))=false)(q2:(s.any fun b=>oddN b.toNat)=false)(q3:decide (((L.length:Nat):Int)<1)=false)(q4:decide ((16:Int)<(L.length:Nat))=true),evW 186 [tv ki li s (L.map sC) es] []=oR (.bool false)):=by
 refine⟨?_,?_,?_,?_,?_⟩<;>intros<;>rw [w186 rfl]<;>conv=>lhs;arg 2;whnf
 all_goals simp +contextual -implicitDefEqProofs (maxSteps:=9^9) only [↓wkA,↓lv186,↓fz186,wuH,↓reduceIte,xA,xB,xC,xD,xE,xF,reduceCtorEq,xH,xI,xJ,xK,xL,xM,xN,xO,run259, *,wbr]
def run186x0:=@run186x0G.1
def run186x1:=@run186x0G.2.1
def run186x2:=@run186x0G.2.2.1
def run186x3:=@run186x0G.2.2.2.1
def run186x4:=@run186x0G.2.2.2.2
theorem run186a{L:LB}{ki li:Int}{s:LU}{es:LA}(q0:(s==[])=false)(q1:decide ((100:Int)<(s.length:Nat))=false)(q2:(s.any fun b=>oddN b.toNat)=false)(q3:decide (((L.length:Nat):Int)<1)=false)(q4:decide ((16:Int)<(L.length:Nat))=false):evW 186 [tv ki li s (L.map sC) es] []=oR (.bool (namesF L 0 L)):=by
 have hb:L.length<4611686018427387904:=by simp at q4;omega
 rw [w186 rfl]
 conv=>lhs;arg 2;whnf
 simp +contextual -implicitDefEqProofs (maxSteps:=9^9) only [↓wkA,↓lv186,↓fz186,wuH,↓reduceIte,xA,xB,xC,xD,xE,xF,reduceCtorEq,xH,xI,xJ,xK,xL,xM,xN,xO,q0,q1,q2,q3,q4,run259,wbr]
 refine(lpX_code (c':=lp Tryz.f186 0) (by kernel_rfl)).trans ?_
 rw [lq186_0]
 try simp +contextual -implicitDefEqProofs (maxSteps:=9^9) only [↓wkA,↓lv186,↓fz186,wuH,↓reduceIte,xA,xB,xC,xD,xE,xF,reduceCtorEq,xH,xI,xJ,xK,xL,xM,xN,xO,q0,q1,q2,q3,q4,run259,wbr]
 refine(loop186_0 (ki:=ki) (li:=li) (s:=s) (es:=es) (X:=oR (.bool false)) (Y:=oR (.bool true)) hb ?_ ?_ L 0 rfl).trans ?_
 ·intro fr hp nx
  simp +contextual -implicitDefEqProofs (maxSteps:=9^9) only [↓wkA,↓lv186,↓fz186,wuH,↓reduceIte,xA,xB,xC,xD,xE,xF,reduceCtorEq,xH,xI,xJ,xK,xL,xM,xN,xO,wbr]
 ·intro fr hp nx
  simp +contextual -implicitDefEqProofs (maxSteps:=9^9) only [↓wkA,↓lv186,↓fz186,wuH,↓reduceIte,xA,xB,xC,xD,xE,xF,reduceCtorEq,xH,xI,xJ,xK,xL,xM,xN,xO,wbr]
 cases namesF L 0 L<;>rfl
def enumP(s:LU)(L:LB):Bool := !(s==[])&&(!decide ((100:Int)<(s.length:Nat))&&(!(s.any fun b=>oddN b.toNat)&&(!decide (((L.length:Nat):Int)<1)&&(!decide ((16:Int)<(L.length:Nat))&&namesF L 0 L))))
theorem run186{L:LB}{ki li:Int}{s:LU}{es:LA}:evW 186 [tv ki li s (L.map sC) es] []=oR (.bool (enumP s L)):=by
 unfold enumP
 cases q0:(s==[]) with
 | true=>exact run186x0 q0
 | false =>
 cases q1:decide ((100:Int)<(s.length:Nat)) with
 | true=>exact run186x1 q0 q1
 | false =>
 cases q2:(s.any fun b=>oddN b.toNat) with
 | true=>exact run186x2 q0 q1 q2
 | false =>
 cases q3:decide (((L.length:Nat):Int)<1) with
 | true=>exact run186x3 q0 q1 q2 q3
 | false =>
 cases q4:decide ((16:Int)<(L.length:Nat)) with
 | true=>exact run186x4 q0 q1 q2 q3 q4
 | false =>
 exact run186a q0 q1 q2 q3 q4
def headN(p:UInt8→Bool):LU→Nat
 | []=>0
 | c::r=>br (p c) (headN p r+1) 0
def pB(c:UInt8):Bool:=partB (c.toNat:Int)
def wordsL:LB:=[[112,97,99,107,97,103,101],[105,115],[101,110,100],[109,111,100,117,108,101],[103,101,110,101,114,105,99],[112,111,114,116],[98,101,103,105,110],[105,110],[111,117,116],[118,101,99],[97,114,114,97,121],[111,102],[99,111,110,115,116],[116,121,112,101],[115,105,103,110,97,108],[118,97,114],[102,117,110,99,116,105,111,110],[114,101,116,117,114,110],[117,115,101],[112,114,111,99,101,115,115],[97,108,108],[105,110,115,116],[102,111,114],[116,111],[103,101,110,101,114,97,116,101],[105,102],[101,108,115,101],[116,114,97,110,115,112,111,114,116],[97,102,116,101,114],[97,115,115,101,114,116],[114,101,112,111,114,116],[116,104,101,110],[101,108,115,105,102],[99,97,115,101],[119,104,101,110],[111,116,104,101,114,115],[108,111,111,112],[119,104,105,108,101],[119,97,105,116],[111,110],[117,110,116,105,108],[110,117,108,108],[97,110,100],[111,114],[120,111,114],[110,97,110,100],[110,111,114],[120,110,111,114],[110,111,116],[109,111,100],[115,104,108],[115,104,114],[100,111,119,110,116,111]]
theorem run313{c:Int}:evW 313 [.int .u8 c,iA 1] []=oR (.bool (partB c)):=by
 rw [w313 rfl]
 conv=>lhs;arg 2;whnf
 simp +contextual -implicitDefEqProofs (maxSteps:=9^9) only [↓wkA,↓lv313,↓fz313,wuH,↓reduceIte,xA,xB,xC,xD,xE,xF,reduceCtorEq,xH,xI,xJ,xK,xL,xM,xN,xO,run338,wbr]
theorem loop266_0{s:LU}(hb:s.length<4611686018427387904){k:KK}{X:Int→OO}(h2:∀ (m:Nat) fr nx,look 7 fr=some (iA m)→k (.exit 0) ⟨fr,[],nx,[]⟩=X m) :
  ∀(rest:LU)(i:Nat)(hle:i≤s.length),s.drop i=rest→lpN ⟨26,0,kpOf 266,noTab⟩ (lp Tryz.f266 0) ⟨[(0,.str s),(1,iA 0),(2,iA 1),(7,iA i)],[],0,[]⟩ k=X ((i+headN pB rest:Nat):Int)
 | [],i,hle,hd=>by
   have hi:=drop_ge hd
   have hz:IntKind.i64.wrap ((0:Int)+i)=i:=by rw [Int.zero_add];exact wrap_i64 (by omega) (by omega)
   have h3:=h2 i
   unfold lpN
   conv=>lhs;arg 2;whnf
   simp +contextual -implicitDefEqProofs (maxSteps:=9^9) only [↓wkA,↓lv266,↓fz266,wuA,↓reduceIte,xA,xB,xC,xD,xE,xF,reduceCtorEq,xH,xI,xJ,xK,xL,xM,xN,xO,hi,h3,headN,hz,wbr]
 | b::rest,i,hle,hd=>by
   have hi:=drop_lt hd
   have hbi:=drop_at hd
   have hd2:=drop_nx hd
   have hw:IntKind.i64.wrap ((i:Int)+1)=((i+1:Nat):Int):=wrap_succ (by simp at hi;omega)
   have hlt:i<s.length:=by simpa using hi
   have ih:=loop266_0 hb h2 rest (i+1) (by omega) hd2
   have hz:IntKind.i64.wrap ((0:Int)+i)=i:=by rw [Int.zero_add];exact wrap_i64 (by omega) (by omega)
   have h3:=h2 i
   rw [show i+1+headN pB rest=i+(headN pB rest+1) by omega] at ih
   unfold lpN
   conv=>lhs;arg 2;whnf
   simp +contextual -implicitDefEqProofs (maxSteps:=9^9) only [↓wkA,↓lv266,↓fz266,wuA,↓reduceIte,xA,xB,xC,xD,xE,xF,reduceCtorEq,xH,xI,xJ,xK,xL,xM,xN,xO,hi,hw,hbi,map_get,lq266_0,h3,headN,pB,run313,ih,hz,wbr]
theorem run266{s:LU}(hb:s.length<4611686018427387904):evW 266 [.str s,iA 0,iA 1] []=oR (iA (headN pB s:Nat)):=by
 rw [w266 rfl]
 conv=>lhs;arg 2;whnf
 simp +contextual -implicitDefEqProofs (maxSteps:=9^9) only [↓wkA,↓lv266,↓fz266,wuA,↓reduceIte,xA,xB,xC,xD,xE,xF,reduceCtorEq,xH,xI,xJ,xK,xL,xM,xN,xO,wbr]
 refine(lpX_code (c':=lp Tryz.f266 0) (by kernel_rfl)).trans ?_
 rw [lq266_0]
 try simp +contextual -implicitDefEqProofs (maxSteps:=9^9) only [↓wkA,↓lv266,↓fz266,wuA,↓reduceIte,xA,xB,xC,xD,xE,xF,reduceCtorEq,xH,xI,xJ,xK,xL,xM,xN,xO,wbr]
 refine(loop266_0 (X:=fun z=>oR (iA z)) hb ?_ s 0 (Nat.zero_le _) rfl).trans ?_
 ·intro m fr nx hl
  simp +contextual -implicitDefEqProofs (maxSteps:=9^9) only [↓wkA,↓lv266,↓fz266,wuA,↓reduceIte,xA,xB,xC,xD,xE,xF,reduceCtorEq,xH,xI,xJ,xK,xL,xM,xN,xO,hl,wbr]
 rw [Nat.zero_add]
theorem loop314_0{L:LB}{s:LU}(hb:L.length<4611686018427387904){k:KK}{X Y:OO}(h1:∀ fr nx,k .ret ⟨(4,.bool true)::fr,[],nx,[]⟩=X)(h2:∀ fr nx,k (.exit 0) ⟨fr,[],nx,[]⟩=Y) :
  ∀(rest:LB)(i:Nat) ,L.drop i=rest→lpN ⟨17,0,kpOf 314,noTab⟩ (lp Tryz.f314 0) ⟨[(1,.str s),(7,.sl 1 (L.map sC)),(8,iA L.length),(9,iA i)],[],0,[]⟩ k=br (rest.any fun x=>x==s) X Y
 | [],i,hd=>by
   have hi:=drop_ge hd
   unfold lpN
   conv=>lhs;arg 2;whnf
   simp +contextual -implicitDefEqProofs (maxSteps:=9^9) only [↓wkA,↓lv314,↓fz314,wuH,↓reduceIte,xA,xB,xC,xD,xE,xF,reduceCtorEq,xH,xI,xJ,xK,xL,xM,xN,xO,hi,h1,h2,List.any_nil,wbr]
 | b::rest,i,hd=>by
   have hi:=drop_lt hd
   have hbi:=drop_at hd
   have hd2:=drop_nx hd
   have hw:IntKind.i64.wrap ((i:Int)+1)=((i+1:Nat):Int):=wrap_succ (by simp at hi;omega)
   have ih:=loop314_0 (s:=s) hb h1 h2 rest (i+1) hd2
   unfold lpN
   conv=>lhs;arg 2;whnf
   simp +contextual -implicitDefEqProofs (maxSteps:=9^9) only [↓wkA,↓lv314,↓fz314,wuH,↓reduceIte,xA,xB,xC,xD,xE,xF,reduceCtorEq,xH,xI,xJ,xK,xL,xM,xN,xO,hi,hw,hbi,map_get,lq314_0,h1,h2,List.any_cons,ih,wbr]
theorem run314{L:LB}{s:LU}(hb:L.length<4611686018427387904):evW 314 [.sl 1 (L.map sC),.str s] []=oR (.bool (L.any fun x=>x==s)):=by
 rw [w314 rfl]
 conv=>lhs;arg 2;whnf
 simp +contextual -implicitDefEqProofs (maxSteps:=9^9) only [↓wkA,↓lv314,↓fz314,wuH,↓reduceIte,xA,xB,xC,xD,xE,xF,reduceCtorEq,xH,xI,xJ,xK,xL,xM,xN,xO,wbr]
 refine(lpX_code (c':=lp Tryz.f314 0) (by kernel_rfl)).trans ?_
 rw [lq314_0]
 try simp +contextual -implicitDefEqProofs (maxSteps:=9^9) only [↓wkA,↓lv314,↓fz314,wuH,↓reduceIte,xA,xB,xC,xD,xE,xF,reduceCtorEq,xH,xI,xJ,xK,xL,xM,xN,xO,wbr]
 refine(loop314_0 (s:=s) (X:=oR (.bool true)) (Y:=oR (.bool false)) hb ?_ ?_ L 0 rfl).trans ?_
 ·intro fr nx
  simp +contextual -implicitDefEqProofs (maxSteps:=9^9) only [↓wkA,↓lv314,↓fz314,wuH,↓reduceIte,xA,xB,xC,xD,xE,xF,reduceCtorEq,xH,xI,xJ,xK,xL,xM,xN,xO,wbr]
 ·intro fr nx
  simp +contextual -implicitDefEqProofs (maxSteps:=9^9) only [↓wkA,↓lv314,↓fz314,wuH,↓reduceIte,xA,xB,xC,xD,xE,xF,reduceCtorEq,xH,xI,xJ,xK,xL,xM,xN,xO,wbr]
 cases L.any fun x=>x==s<;>rfl
theorem run315:evW 315 [] []=oR (.sl 1 (wordsL.map sC)):=ev_le 20 315 _ _ _ (by kernel_rfl)
theorem run267{s:LU}:evW 267 [.str s] []=oR (.bool (wordsL.any fun x=>x==s)):=by
 have h3:=run315
 have h4:=run314 (L:=wordsL) (s:=s) (by decide)
 rw [w267 rfl]
 conv=>lhs;arg 2;whnf
 simp +contextual -implicitDefEqProofs (maxSteps:=9^9) only [↓wkA,↓lv267,↓fz267,wuH,↓reduceIte,xA,xB,xC,xD,xE,xF,reduceCtorEq,xH,xI,xJ,xK,xL,xM,xN,xO,h3,h4,wbr]
theorem run192x0{c:UInt8}{r:LU}(q0:decide ((((c::r).length:Nat):Int)≤40)=false):evW 192 [.str (c::r)] []=oR (.bool false):=by
 have h3:decide ((1:Int)≤((c::r).length:Nat))=true:=by simp;omega
 simp only [List.length_cons] at h3 q0
 rw [w192 rfl]
 conv=>lhs;arg 2;whnf
 simp +contextual -implicitDefEqProofs (maxSteps:=9^9) only [↓wkA,↓lv192,↓fz192,wuH,↓reduceIte,xA,xB,xC,xD,xE,xF,reduceCtorEq,xH,xI,xJ,xK,xL,xM,xN,xO,q0,run265,run267,h3,wbr]
theorem run192x1{c:UInt8}{r:LU}(q0:decide ((((c::r).length:Nat):Int)≤40)=true)(q1:letB (c.toNat:Int)=false):evW 192 [.str (c::r)] []=oR (.bool false):=by
 have h3:decide ((1:Int)≤((c::r).length:Nat))=true:=by simp;omega
 simp only [List.length_cons] at h3 q0
 have h4:=run266 (s:=c::r) (by have:=of_decide_eq_true q0;simp;omega)
 rw [w192 rfl]
 conv=>lhs;arg 2;whnf
 simp +contextual -implicitDefEqProofs (maxSteps:=9^9) only [↓wkA,↓lv192,↓fz192,wuH,↓reduceIte,xA,xB,xC,xD,xE,xF,reduceCtorEq,xH,xI,xJ,xK,xL,xM,xN,xO,q0,q1,run265,run267,h3,h4,wbr]
theorem run192x2{c:UInt8}{r:LU}(q0:decide ((((c::r).length:Nat):Int)≤40)=true)(q1:letB (c.toNat:Int)=true)(q2:(((headN pB (c::r):Nat):Int)==((c::r).length:Nat))=false):evW 192 [.str (c::r)] []=oR (.bool false):=by
 have h3:decide ((1:Int)≤((c::r).length:Nat))=true:=by simp;omega
 simp only [List.length_cons] at h3 q0
 have h4:=run266 (s:=c::r) (by have:=of_decide_eq_true q0;simp;omega)
 simp only [List.length_cons] at q2
 rw [w192 rfl]
 conv=>lhs;arg 2;whnf
 simp +contextual -implicitDefEqProofs (maxSteps:=9^9) only [↓wkA,↓lv192,↓fz192,wuH,↓reduceIte,xA,xB,xC,xD,xE,xF,reduceCtorEq,xH,xI,xJ,xK,xL,xM,xN,xO,q0,q1,q2,run265,run267,h3,h4,wbr]
theorem run192xa{c:UInt8}{r:LU}(q0:decide ((((c::r).length:Nat):Int)≤40)=true)(q1:letB (c.toNat:Int)=true)(q2:(((headN pB (c::r):Nat):Int)==((c::r).length:Nat))=true):evW 192 [.str (c::r)] []=oR (.bool (!(wordsL.any fun x=>x==c::r))):=by
 have h3:decide ((1:Int)≤((c::r).length:Nat))=true:=by simp;omega
 simp only [List.length_cons] at h3 q0
 have h4:=run266 (s:=c::r) (by have:=of_decide_eq_true q0;simp;omega)
 simp only [List.length_cons] at q2
 rw [w192 rfl]
 conv=>lhs;arg 2;whnf
 simp +contextual -implicitDefEqProofs (maxSteps:=9^9) only [↓wkA,↓lv192,↓fz192,wuH,↓reduceIte,xA,xB,xC,xD,xE,xF,reduceCtorEq,xH,xI,xJ,xK,xL,xM,xN,xO,q0,q1,q2,run265,run267,h3,h4,wbr]
theorem run192e:evW 192 [.str []] []=oR (.bool false):=ev_le 20 192 _ _ _ (by kernel_rfl)
def nameR:LU→Bool
 | []=>false
 | c::r=>decide ((((c::r).length:Nat):Int)≤40)&&(letB (c.toNat:Int)&&((((headN pB (c::r):Nat):Int)==((c::r).length:Nat)) && !(wordsL.any fun x=>x==c::r)))
theorem nameR_cons{c:UInt8}{r:LU}:nameR (c::r)=(decide ((((c::r).length:Nat):Int)≤40)&&(letB (c.toNat:Int)&&((((headN pB (c::r):Nat):Int)==((c::r).length:Nat)) && !(wordsL.any fun x=>x==c::r)))):=rfl
theorem run192{s:LU}:evW 192 [.str s] []=oR (.bool (nameR s)):=by
 cases s with
 | nil=>exact run192e
 | cons c r =>
   rw [nameR_cons]
   cases q0:decide ((((c::r).length:Nat):Int)≤40) with
   | false=>exact run192x0 q0
   | true =>
   cases q1:letB (c.toNat:Int) with
   | false=>exact run192x1 q0 q1
   | true =>
   cases q2:(((headN pB (c::r):Nat):Int)==((c::r).length:Nat)) with
   | false=>exact run192x2 q0 q1 q2
   | true =>
   exact run192xa q0 q1 q2
theorem pB32:pB 32=false:=by decide
theorem index_ge(l sub:LU):Lib.index l sub = -1∨0≤Lib.index l sub:=by
 induction l with
 | nil=>unfold Lib.index;split<;>simp
 | cons b l ih =>
   unfold Lib.index
   split
   ·simp
   ·split
    ·simp
    ·rename_i h
     rcases ih with ih|ih
     ·simp [ih] at h
     ·exact .inr (by omega)
theorem has_cons{b:UInt8}{l sub:LU}:contD (b::l) sub=(sub.isPrefixOf (b::l)||contD l sub):=by
 unfold contD Lib.contains
 rw [show Lib.index (b::l) sub=if sub.isPrefixOf (b::l) then 0 else if Lib.index l sub == -1 then -1 else Lib.index l sub+1 by rw [Lib.index]]
 cases h:sub.isPrefixOf (b::l)
 ·rcases index_ge l sub with h2|h2
  ·simp [h2]
  ·have h3:(Lib.index l sub == -1)=false:=by simp;omega
   simp [h3,h2]
   omega
 ·simp
theorem has_nil{b:UInt8}{sub:LU}:contD [] (b::sub)=false:=rfl
theorem no_space:∀{s:LU},s.all pB=true→contD s [32]=false
 | [],_=>rfl
 | c::r,h=>by
   rw [List.all_cons,Bool.and_eq_true] at h
   rw [has_cons,no_space h.2]
   have:(32==c)=false:=by
    cases e:(32==c)
    ·rfl
    ·have:=eq_of_beq e
     subst this
     rw [pB32] at h
     exact absurd h.1 (by simp)
   simp [List.isPrefixOf,this]
def flatW:LB→LU
 | []=>[32]
 | x::r=>32::(x++flatW r)
theorem flat_head:∀(r:LB),∃ y,flatW r=32::y
 | []=>⟨_,rfl⟩
 | x::r=>⟨_,rfl⟩
theorem has_skip{w:LU}:∀{x y:LU},x.all pB=true→contD (x++y) (32::w)=contD y (32::w)
 | [],y,_=>rfl
 | c::r,y,h=>by
   rw [List.all_cons,Bool.and_eq_true] at h
   rw [List.cons_append,has_cons,has_skip h.2]
   have:(32==c)=false:=by
    cases e:(32==c)
    ·rfl
    ·have:=eq_of_beq e
     subst this
     rw [pB32] at h
     exact absurd h.1 (by simp)
   simp [List.isPrefixOf,this]
theorem pre_word:∀{w x y:LU},w.all pB=true→x.all pB=true→(w++[32]).isPrefixOf (x++32::y)=(x==w)
 | [],[],y,_,_=>by simp [List.isPrefixOf]
 | [],c::x,y,_,h=>by
   rw [List.all_cons,Bool.and_eq_true] at h
   have:(32==c)=false:=by
    cases e:(32==c)
    ·rfl
    ·have:=eq_of_beq e
     subst this
     rw [pB32] at h
     exact absurd h.1 (by simp)
   simp [List.isPrefixOf,this]
 | c::w,[],y,h,_=>by
   rw [List.all_cons,Bool.and_eq_true] at h
   have:(c==32)=false:=by
    cases e:(c==32)
    ·rfl
    ·have:=eq_of_beq e
     subst this
     rw [pB32] at h
     exact absurd h.1 (by simp)
   simp [List.isPrefixOf,this]
 | c::w,d::x,y,h,k=>by
   rw [List.all_cons,Bool.and_eq_true] at h k
   rw [List.cons_append,List.cons_append,List.isPrefixOf,pre_word h.2 k.2]
   rw [show (d::x==c::w)=(d==c&&x==w) from rfl]
   congr 1
   rw [Bool.beq_comm]
theorem has_flat{w:LU}(hw:w.all pB=true):∀{ws:LB},(ws.all fun x=>x.all pB)=true→contD (flatW ws) (32::(w++[32]))=ws.any fun x=>x==w
 | [],_=>by
   unfold flatW
   rw [has_cons,has_nil]
   cases w<;>simp [List.isPrefixOf]
 | x::r,h=>by
   rw [List.all_cons,Bool.and_eq_true] at h
   rw [List.any_cons,← has_flat hw h.2]
   rw [show flatW (x::r)=32::(x++flatW r) from rfl,has_cons,has_skip h.1]
   obtain⟨y,hy⟩:=flat_head r
   rw [hy,List.isPrefixOf,pre_word hw h.1]
   simp
theorem words_flat:wordsS=flatW wordsL:=by decide
theorem words_part:(wordsL.all fun x=>x.all pB)=true:=by decide
theorem word_eq{s:LU}(h:s.all pB=true)(hn:(s==[])=false):wordP s=wordsL.any fun x=>x==s:=by
 unfold wordP
 rw [no_space h,words_flat,has_flat h words_part,hn]
 rfl
theorem headN_all:∀{s:LU},s.all pB=true→headN pB s=s.length
 | [],_=>rfl
 | c::r,h=>by
   rw [List.all_cons,Bool.and_eq_true] at h
   rw [headN,h.1,br,headN_all h.2,List.length_cons]
theorem headN_lt:∀{s:LU},s.all pB=false→headN pB s<s.length
 | [],h=>by cases h
 | c::r,h=>by
   unfold headN
   cases e:pB c with
   | false=>simp [br]
   | true =>
     rw [List.all_cons,e,Bool.true_and] at h
     have:=headN_lt h
     simp only [br,List.length_cons]
     omega
theorem name_eq:∀(s:LU),nameR s=nameP s
 | []=>rfl
 | c::r=>by
   rw [nameR_cons,nameP_cons]
   change _=(decide (((c::r).length:Int)≤40)&&(letB (c.toNat:Int)&&(!wordP (c::r)&&(c::r).all pB)))
   cases h:(c::r).all pB with
   | true =>
     rw [word_eq h rfl,headN_all h]
     simp
   | false =>
     have:=headN_lt h
     have e:(((headN pB (c::r):Nat):Int)==((c::r).length:Nat))=false:=by simp at this ⊢;omega
     rw [e]
     simp
def oddI(c:Int):Bool:=(decide (c<97)||decide (122<c))&&((decide (c<65)||decide (90<c))&&((decide (c<48)||decide (57<c))&&(!(c==95) && !(c==46))))
theorem ranges(c:Int):∃ e1 e2 e3 e4 e5 e6 e7 e8:Bool,decide (c<97)=e1∧decide (122<c)=e2∧decide (c<65)=e3∧decide (90<c)=e4∧decide (c<48)=e5∧decide (57<c)=e6∧(c==95)=e7∧(c==46)=e8 ∧
  ((e1,e2,e3,e4,e5,e6,e7,e8)=(false,false,false,true,false,true,false,false)∨(e1,e2,e3,e4,e5,e6,e7,e8)=(false,true,false,true,false,true,false,false)∨(e1,e2,e3,e4,e5,e6,e7,e8)=(true,false,false,false,false,true,false,false) ∨
   (e1,e2,e3,e4,e5,e6,e7,e8)=(true,false,false,true,false,true,true,false)∨(e1,e2,e3,e4,e5,e6,e7,e8)=(true,false,false,true,false,true,false,false)∨(e1,e2,e3,e4,e5,e6,e7,e8)=(true,false,true,false,false,false,false,false) ∨
   (e1,e2,e3,e4,e5,e6,e7,e8)=(true,false,true,false,false,true,false,false)∨(e1,e2,e3,e4,e5,e6,e7,e8)=(true,false,true,false,true,false,false,true)∨(e1,e2,e3,e4,e5,e6,e7,e8)=(true,false,true,false,true,false,false,false)):=by
 have hh:(97≤c∧c≤122)∨(122<c)∨(65≤c∧c≤90)∨(c=95)∨(91≤c∧c≤96∧c≠95)∨(48≤c∧c≤57)∨(58≤c∧c≤64)∨(c=46)∨(c<48∧c≠46):=by omega
 rcases hh with h|h|h|h|h|h|h|h|h
 ·exact⟨false,false,false,true,false,true,false,false,decide_eq_false (by omega),decide_eq_false (by omega),decide_eq_false (by omega),decide_eq_true (by omega),decide_eq_false (by omega),decide_eq_true (by omega),beq_eq_false_iff_ne.2 (by omega),beq_eq_false_iff_ne.2 (by omega),.inl rfl⟩
 ·exact⟨false,true,false,true,false,true,false,false,decide_eq_false (by omega),decide_eq_true (by omega),decide_eq_false (by omega),decide_eq_true (by omega),decide_eq_false (by omega),decide_eq_true (by omega),beq_eq_false_iff_ne.2 (by omega),beq_eq_false_iff_ne.2 (by omega),.inr (.inl rfl)⟩
 ·exact⟨true,false,false,false,false,true,false,false,decide_eq_true (by omega),decide_eq_false (by omega),decide_eq_false (by omega),decide_eq_false (by omega),decide_eq_false (by omega),decide_eq_true (by omega),beq_eq_false_iff_ne.2 (by omega),beq_eq_false_iff_ne.2 (by omega),.inr (.inr (.inl rfl))⟩
 ·exact⟨true,false,false,true,false,true,true,false,decide_eq_true (by omega),decide_eq_false (by omega),decide_eq_false (by omega),decide_eq_true (by omega),decide_eq_false (by omega),decide_eq_true (by omega),beq_iff_eq.2 (by omega),beq_eq_false_iff_ne.2 (by omega),.inr (.inr (.inr (.inl rfl)))⟩
 ·exact⟨true,false,false,true,false,true,false,false,decide_eq_true (by omega),decide_eq_false (by omega),decide_eq_false (by omega),decide_eq_true (by omega),decide_eq_false (by omega),decide_eq_true (by omega),beq_eq_false_iff_ne.2 (by omega),beq_eq_false_iff_ne.2 (by omega),.inr (.inr (.inr (.inr (.inl rfl))))⟩
 ·exact⟨true,false,true,false,false,false,false,false,decide_eq_true (by omega),decide_eq_false (by omega),decide_eq_true (by omega),decide_eq_false (by omega),decide_eq_false (by omega),decide_eq_false (by omega),beq_eq_false_iff_ne.2 (by omega),beq_eq_false_iff_ne.2 (by omega),.inr (.inr (.inr (.inr (.inr (.inl rfl)))))⟩
 ·exact⟨true,false,true,false,false,true,false,false,decide_eq_true (by omega),decide_eq_false (by omega),decide_eq_true (by omega),decide_eq_false (by omega),decide_eq_false (by omega),decide_eq_true (by omega),beq_eq_false_iff_ne.2 (by omega),beq_eq_false_iff_ne.2 (by omega),.inr (.inr (.inr (.inr (.inr (.inr (.inl rfl))))))⟩
 ·exact⟨true,false,true,false,true,false,false,true,decide_eq_true (by omega),decide_eq_false (by omega),decide_eq_true (by omega),decide_eq_false (by omega),decide_eq_true (by omega),decide_eq_false (by omega),beq_eq_false_iff_ne.2 (by omega),beq_iff_eq.2 (by omega),.inr (.inr (.inr (.inr (.inr (.inr (.inr (.inl rfl)))))))⟩
 ·exact⟨true,false,true,false,true,false,false,false,decide_eq_true (by omega),decide_eq_false (by omega),decide_eq_true (by omega),decide_eq_false (by omega),decide_eq_true (by omega),decide_eq_false (by omega),beq_eq_false_iff_ne.2 (by omega),beq_eq_false_iff_ne.2 (by omega),.inr (.inr (.inr (.inr (.inr (.inr (.inr (.inr (rfl))))))))⟩
def bareB(a b c:Bool)(n:Int)(x y:Nat):Bool:=(a||n==0)&&((b||(x:Int)==0)&&(c||(y:Int)==0))
theorem loop191_0{s:LU}(hb:s.length<4611686018427387904){k:KK}{X Y:OO}(h1:∀ fr nx,k .ret ⟨(2,.bool false)::fr,[],nx,[]⟩=X)(h2:∀ fr nx,look 0 fr=some (.str s)→k (.exit 0) ⟨fr,[],nx,[]⟩=Y) :
  ∀(rest:LU)(i:Nat) ,s.drop i=rest→lpN ⟨52,0,kpOf 191,noTab⟩ (lp Tryz.f191 0) ⟨[(0,.str s),(6,iA s.length),(7,iA i)],[],0,[]⟩ k=br (rest.any fun c=>oddI (c.toNat:Int)) X Y
 | [],i,hd=>by
   have hi:=drop_ge hd
   unfold lpN
   conv=>lhs;arg 2;whnf
   simp +contextual -implicitDefEqProofs (maxSteps:=9^9) only [↓wkA,↓lv191,↓fz191,wuA,↓reduceIte,xA,xB,xC,xD,xE,xF,reduceCtorEq,xH,xI,xJ,xK,xL,xM,xN,xO,hi,h1,h2,List.any_nil,wbr]
 | b::rest,i,hd=>by
   have hi:=drop_lt hd
   have hbi:=drop_at hd
   have hd2:=drop_nx hd
   have hw:IntKind.i64.wrap ((i:Int)+1)=((i+1:Nat):Int):=wrap_succ (by simp at hi;omega)
   have ih:=loop191_0 hb h1 h2 rest (i+1) hd2
   generalize hcb:(b.toNat:Int)=c
   obtain⟨e1,e2,e3,e4,e5,e6,e7,e8,d1,d2,d3,d4,d5,d6,d7,d8,hh⟩:=ranges c
   have ho:oddI c=((e1||e2)&&((e3||e4)&&((e5||e6)&&(!e7 && !e8)))):=by rw [← d1,← d2,← d3,← d4,← d5,← d6,← d7,← d8];rfl
   simp only [Prod.mk.injEq] at hh
   rcases hh with ⟨rfl,rfl,rfl,rfl,rfl,rfl,rfl,rfl⟩|⟨rfl,rfl,rfl,rfl,rfl,rfl,rfl,rfl⟩|⟨rfl,rfl,rfl,rfl,rfl,rfl,rfl,rfl⟩|⟨rfl,rfl,rfl,rfl,rfl,rfl,rfl,rfl⟩|⟨rfl,rfl,rfl,rfl,rfl,rfl,rfl,rfl⟩|⟨rfl,rfl,rfl,rfl,rfl,rfl,rfl,rfl⟩|⟨rfl,rfl,rfl,rfl,rfl,rfl,rfl,rfl⟩|⟨rfl,rfl,rfl,rfl,rfl,rfl,rfl,rfl⟩|⟨rfl,rfl,rfl,rfl,rfl,rfl,rfl,rfl⟩
   all_goals
    unfold lpN
    conv=>lhs;arg 2;whnf
    simp +contextual -implicitDefEqProofs (maxSteps:=9^9) only [↓wkA,↓lv191,↓fz191,wuA,↓reduceIte,xA,xB,xC,xD,xE,xF,reduceCtorEq,xH,xI,xJ,xK,xL,xM,xN,xO,hi,hw,hbi,map_get,lq191_0,h1,h2,List.any_cons,ih,hcb,ho,d1,d2,d3,d4,d5,d6,d7,d8,wbr]
theorem run191{s:LU}(hb:s.length<4611686018427387904):evW 191 [.str s] []=oR (.bool (!(s.any fun c=>oddI (c.toNat:Int))&&(decide ((1:Int)≤(s.length:Nat))&&decide (((s.length:Nat):Int)≤100)))):=by
 rw [w191 rfl]
 conv=>lhs;arg 2;whnf
 simp +contextual -implicitDefEqProofs (maxSteps:=9^9) only [↓wkA,↓lv191,↓fz191,wuA,↓reduceIte,xA,xB,xC,xD,xE,xF,reduceCtorEq,xH,xI,xJ,xK,xL,xM,xN,xO,wbr]
 refine(lpX_code (c':=lp Tryz.f191 0) (by kernel_rfl)).trans ?_
 rw [lq191_0]
 try simp +contextual -implicitDefEqProofs (maxSteps:=9^9) only [↓wkA,↓lv191,↓fz191,wuA,↓reduceIte,xA,xB,xC,xD,xE,xF,reduceCtorEq,xH,xI,xJ,xK,xL,xM,xN,xO,wbr]
 refine(loop191_0 (X:=oR (.bool false)) (Y:=oR (.bool (decide ((1:Int)≤(s.length:Nat))&&decide (((s.length:Nat):Int)≤100)))) hb ?_ ?_ s 0 rfl).trans ?_
 ·intro fr nx
  simp +contextual -implicitDefEqProofs (maxSteps:=9^9) only [↓wkA,↓lv191,↓fz191,wuA,↓reduceIte,xA,xB,xC,xD,xE,xF,reduceCtorEq,xH,xI,xJ,xK,xL,xM,xN,xO,wbr]
 ·intro fr nx hl
  simp +contextual -implicitDefEqProofs (maxSteps:=9^9) only [↓wkA,↓lv191,↓fz191,wuA,↓reduceIte,xA,xB,xC,xD,xE,xF,reduceCtorEq,xH,xI,xJ,xK,xL,xM,xN,xO,hl,wbr]
 cases (s.any fun c=>oddI (c.toNat:Int))<;>rfl
theorem run187ftfG:(∀{k n:Int}{bs ls:LA},evW 187 [vv k n bs ls,.bool false,.bool true,.bool false] []=oR (.bool (bareB false true false n bs.length ls.length)))∧(∀{k n:Int}{bs ls:LA},evW 187 [vv k n bs ls,.bool true,.bool false,.bool false] []=oR (.bool (bareB true false false n bs.length ls.length)))∧(∀{k n:Int}{bs ls:LA},evW 187 [vv k n bs ls,.bool false,.bool false,.bool true] []=oR (.bool (bareB false false true n bs.length ls.length))):=by
 refine⟨?_,?_,?_⟩<;>intros<;>rw [w187 rfl]<;>conv=>lhs;arg 2;whnf
 all_goals simp +contextual -implicitDefEqProofs (maxSteps:=9^9) only [↓wkA,↓lv187,↓fz187,wuH,↓reduceIte,xA,xB,xC,xD,xE,xF,reduceCtorEq,xH,xI,xJ,xK,xL,xM,xN,xO,bareB,wbr]
def run187ftf:=@run187ftfG.1
def run187tff:=@run187ftfG.2.1
def run187fft:=@run187ftfG.2.2
theorem run94k1{l:Int}{s:LU}{L:LB}{es:LA}:evW 94 [tv 1 l s (L.map sC) es] []=oR (.bool (plainB false false false l s L.length es.length)):=by
 have h3:=run185fff (k:=1) (l:=l) (s:=s) (ns:=L.map sC) (es:=es)
 simp only [List.length_map] at h3
 rw [w94 rfl]
 conv=>lhs;arg 2;whnf
 simp +contextual -implicitDefEqProofs (maxSteps:=9^9) only [↓wkA,↓lv94,↓fz94,wuH,↓reduceIte,xA,xB,xC,xD,xE,xF,reduceCtorEq,xH,xI,xJ,xK,xL,xM,xN,xO,h3,wbr]
theorem run94k2{l:Int}{s:LU}{L:LB}{es:LA}:evW 94 [tv 2 l s (L.map sC) es] []=oR (.bool (plainB false false false l s L.length es.length)):=by
 have h3:=run185fff (k:=2) (l:=l) (s:=s) (ns:=L.map sC) (es:=es)
 simp only [List.length_map] at h3
 rw [w94 rfl]
 conv=>lhs;arg 2;whnf
 simp +contextual -implicitDefEqProofs (maxSteps:=9^9) only [↓wkA,↓lv94,↓fz94,wuH,↓reduceIte,xA,xB,xC,xD,xE,xF,reduceCtorEq,xH,xI,xJ,xK,xL,xM,xN,xO,h3,wbr]
theorem run94k3{l:Int}{s:LU}{L:LB}{es:LA}:evW 94 [tv 3 l s (L.map sC) es] []=oR (.bool (plainB false false false l s L.length es.length)):=by
 have h3:=run185fff (k:=3) (l:=l) (s:=s) (ns:=L.map sC) (es:=es)
 simp only [List.length_map] at h3
 rw [w94 rfl]
 conv=>lhs;arg 2;whnf
 simp +contextual -implicitDefEqProofs (maxSteps:=9^9) only [↓wkA,↓lv94,↓fz94,wuH,↓reduceIte,xA,xB,xC,xD,xE,xF,reduceCtorEq,xH,xI,xJ,xK,xL,xM,xN,xO,h3,wbr]
theorem run94k4{l:Int}{s:LU}{L:LB}{es:LA}:evW 94 [tv 4 l s (L.map sC) es] []=oR (.bool (plainB true false false l s L.length es.length&&(decide (1≤l)&&decide (l≤64)))):=by
 have h3:=run185tff (k:=4) (l:=l) (s:=s) (ns:=L.map sC) (es:=es)
 simp only [List.length_map] at h3
 rw [w94 rfl]
 conv=>lhs;arg 2;whnf
 simp +contextual -implicitDefEqProofs (maxSteps:=9^9) only [↓wkA,↓lv94,↓fz94,wuH,↓reduceIte,xA,xB,xC,xD,xE,xF,reduceCtorEq,xH,xI,xJ,xK,xL,xM,xN,xO,h3,wbr]
theorem run94k5{l:Int}{s:LU}{L:LB}{es:LA}:evW 94 [tv 5 l s (L.map sC) es] []=oR (.bool (plainB false true false l s L.length es.length&&enumP s L)):=by
 have h3:=run185ftf (k:=5) (l:=l) (s:=s) (ns:=L.map sC) (es:=es)
 simp only [List.length_map] at h3
 have h4:=run186 (ki:=5) (li:=l) (s:=s) (L:=L) (es:=es)
 rw [w94 rfl]
 conv=>lhs;arg 2;whnf
 simp +contextual -implicitDefEqProofs (maxSteps:=9^9) only [↓wkA,↓lv94,↓fz94,wuH,↓reduceIte,xA,xB,xC,xD,xE,xF,reduceCtorEq,xH,xI,xJ,xK,xL,xM,xN,xO,h3,h4,wbr]
theorem run94x{k:Int}{l:Int}{s:LU}{L:LB}{es:LA}(a1:(k==1)=false)(a2:(k==2)=false)(a3:(k==3)=false)(a4:(k==4)=false)(a5:(k==5)=false)(a6:(k==6)=false):evW 94 [tv k l s (L.map sC) es] []=oR (.bool false):=by
 rw [w94 rfl]
 conv=>lhs;arg 2;whnf
 simp +contextual -implicitDefEqProofs (maxSteps:=9^9) only [↓wkA,↓lv94,↓fz94,wuH,↓reduceIte,xA,xB,xC,xD,xE,xF,reduceCtorEq,xH,xI,xJ,xK,xL,xM,xN,xO,a1,a2,a3,a4,a5,a6,wbr]
theorem run94a0{l:Int}{s:LU}{L:LB}{es:LA}(q:(((es.length:Nat):Int)==1)=false):evW 94 [tv 6 l s (L.map sC) es] []=oR (.bool false):=by
 have h3:=run185tft (k:=6) (l:=l) (s:=s) (ns:=L.map sC) (es:=es)
 simp only [List.length_map] at h3
 rw [w94 rfl]
 conv=>lhs;arg 2;whnf
 simp +contextual -implicitDefEqProofs (maxSteps:=9^9) only [↓wkA,↓lv94,↓fz94,wuH,↓reduceIte,xA,xB,xC,xD,xE,xF,reduceCtorEq,xH,xI,xJ,xK,xL,xM,xN,xO,h3,q,wbr]
theorem run94a1{l l2 k2:Int}{s s2:LU}{L L2:LB}{es2:LA}{b:Bool}(he:evW 94 [tv k2 l2 s2 (L2.map sC) es2] []=oR (.bool b)):evW 94 [tv 6 l s (L.map sC) [[iA k2,iA l2,.str s2,.sl 1 (L2.map sC),.sl 5 es2]]] []=oR (.bool (plainB true false true l s L.length 1&&((decide (1≤l)&&decide (l≤64))&&(!(k2==6)&&b)))):=by
 have h3:=run185tft (k:=6) (l:=l) (s:=s) (ns:=L.map sC) (es:=[[iA k2,iA l2,.str s2,.sl 1 (L2.map sC),.sl 5 es2]])
 simp only [List.length_map,List.length_cons,List.length_nil,Nat.zero_add] at h3
 rw [w94 rfl]
 conv=>lhs;arg 2;whnf
 simp +contextual -implicitDefEqProofs (maxSteps:=9^9) only [↓wkA,↓lv94,↓fz94,wuH,↓reduceIte,xA,xB,xC,xD,xE,xF,reduceCtorEq,xH,xI,xJ,xK,xL,xM,xN,xO,h3,he,wbr]
end Go.Proofs.YtdhcgankmhpgeaaGreat.M
