import Derived.Test.YtdhcgankmhpgeaaGreatB14
import Derived.Test.YtdhcgankmhpgeaaGreatB13
set_option linter.all false
namespace Go.Proofs.YtdhcgankmhpgeaaGreat.M
open Go
open Nat renaming reduceEqDiff → xA, reduceLT → xB, reduceAdd → xC, reduceMul → xD, reduceSub → xE, reduceDiv → xF, reduceLeDiff → xN
open Int renaming reduceAdd → xH, reduceLE → xI, reduceLT → xJ, reduceToNat → xK, reduceEq → xL, reduceBEq → xM
open UInt8 renaming reduceToNat → xO
set_option maxRecDepth 100000
set_option maxHeartbeats 4000000
attribute [local congr] br_congr ob2_congr cnd_congr gdK_congr ob_congr clK_congr finK_congr reg_congr pkK_congr kTK_congr dlT_congr gck_congr iff2_congr sel_congr dPn_congr apJ_congr nmK_congr kTo_congr fzO_congr rcK_congr lvB_congr crK_congr cdB_congr
theorem run96k1G:(∀{l:Int}{s:LU}{L:LB}{es:LA},evW 96 [tv 1 l s (L.map sC) es] []=oR (.bool (l==0&&(((s==[])&&((L.length:Nat):Int)==0)&&((es.length:Nat):Int)==0))))∧(∀{l:Int}{s:LU}{L:LB}{es:LA},evW 96 [tv 2 l s (L.map sC) es] []=oR (.bool (l==0&&(((s==[])&&((L.length:Nat):Int)==0)&&((es.length:Nat):Int)==0))))∧(∀{l:Int}{s:LU}{L:LB}{es:LA},evW 96 [tv 3 l s (L.map sC) es] []=oR (.bool (l==0&&(((s==[])&&((L.length:Nat):Int)==0)&&((es.length:Nat):Int)==0))))∧(∀{l:Int}{s:LU}{L:LB}{es:LA},evW 96 [tv 4 l s (L.map sC) es] []=oR (.bool ((decide (1≤l)&&decide (l≤64))&&(((s==[])&&((L.length:Nat):Int)==0)&&((es.length:Nat):Int)==0))))∧(∀{k:Int}{l:Int}{s:LU}{L:LB}{es:LA}(a1:(k==1)=false)(a2:(k==2)=false)(a3:(k==3)=false)(a4:(k==4)=false)(a5:(k==5)=false)(a6:(k==6)=false),evW 96 [tv k l s (L.map sC) es] []=oR (.bool false))∧(∀{l:Int}{s:LU}{L:LB}{es:LA}(q:(((es.length:Nat):Int)==1)=false),evW 96 [tv 6 l s (L.map sC) es] []=oR (.bool false))∧(∀{l l2 k2:Int}{s s2:LU}{L L2:LB}{es2:LA}{b:Bool}(he:evW 96 [tv k2 l2 s2 (L2.map sC) es2] []=oR (.bool b)),evW 96 [tv 6 l s (L.map sC) [[iA k2,iA l2,.str s2,.sl 1 (L2.map sC),.sl 5 es2]]] []=oR (.bool ((decide (1≤l)&&decide (l≤64))&&(((s==[])&&((L.length:Nat):Int)==0)&&(!(k2==6)&&b))))):=by
 refine⟨?_,?_,?_,?_,?_,?_,?_⟩<;>intros<;>rw [w96 rfl]<;>conv=>lhs;arg 2;whnf
 all_goals simp +contextual -implicitDefEqProofs (maxSteps:=9^9) only [↓wkA,↓lv96,↓fz96,wuH,↓reduceIte,xA,xB,xC,xD,xE,xF,reduceCtorEq,xH,xI,xJ,xK,xL,xM,xN,xO, *,wbr]
def run96k1:=@run96k1G.1
def run96k2:=@run96k1G.2.1
def run96k3:=@run96k1G.2.2.1
def run96k4:=@run96k1G.2.2.2.1
def run96x:=@run96k1G.2.2.2.2.1
def run96a0:=@run96k1G.2.2.2.2.2.1
def run96a1:=@run96k1G.2.2.2.2.2.2
theorem loop96_1{L:LB}{l:Int}{s x:LU}{es:LA}{n:Nat}(hb:L.length<4611686018427387904)(hnl:n≤L.length){z118 z119:Int}{k:KK}{X Y:OO}(h1:∀ fr hp nx,k .ret ⟨(2,.bool false)::fr,hp,nx,[]⟩=X)(h2:∀ fr nx,look 1 fr=some (.ptr 0 0)→look 117 fr=some (.sl 1 (L.map sC))→look 118 fr=some (iA z118)→look 119 fr=some (iA z119)→k (.exit 3) ⟨fr,[(0,.var 38 [iA 5,iA l,.str s,.sl 1 (L.map sC),.sl 5 es])],nx,[]⟩=Y) :
  ∀(rest:LB)(i:Nat) ,(L.take n).drop i=rest→lpN ⟨140,0,kpOf 96,noTab⟩ (lp Tryz.f96 1) ⟨[(1,.ptr 0 0),(5,.str x),(117,.sl 1 (L.map sC)),(118,iA z118),(119,iA z119),(127,iA n),(128,iA i)],[(0,.var 38 [iA 5,iA l,.str s,.sl 1 (L.map sC),.sl 5 es])],1,[]⟩ k=br (rest.any fun y=>y==x) X Y
 | [],i,hd=>by
   have hi:=drop_ge hd
   have hn:(L.take n).length=n:=by simp;omega
   rw [hn] at hi
   unfold lpN
   conv=>lhs;arg 2;whnf
   simp +contextual -implicitDefEqProofs (maxSteps:=9^9) only [↓wkA,↓lv96,↓fz96,wuH,↓reduceIte,xA,xB,xC,xD,xE,xF,reduceCtorEq,xH,xI,xJ,xK,xL,xM,xN,xO,hi,h1,h2,List.any_nil,wbr]
 | b::rest,i,hd=>by
   have hi:=drop_lt hd
   have hbi:=drop_at hd
   have hd2:=drop_nx hd
   have hw:IntKind.i64.wrap ((i:Int)+1)=((i+1:Nat):Int):=wrap_succ (by simp at hi;omega)
   have hn:(L.take n).length=n:=by simp;omega
   rw [hn] at hi
   have hin:i<n:=by simpa using hi
   have hbL:L[i]?=some b:=by
    rw [List.getElem?_take_of_lt hin] at hbi
    exact hbi
   have ih:=loop96_1 (l:=l) (s:=s) (x:=x) (es:=es) hb hnl h1 h2 rest (i+1) hd2
   unfold lpN
   conv=>lhs;arg 2;whnf
   simp +contextual -implicitDefEqProofs (maxSteps:=9^9) only [↓wkA,↓lv96,↓fz96,wuH,↓reduceIte,xA,xB,xC,xD,xE,xF,reduceCtorEq,xH,xI,xJ,xK,xL,xM,xN,xO,hi,hw,hbi,map_get,lq96_1,h1,h2,hbL,List.any_cons,ih,wbr]
def namesR(L:LB):Nat→LB→Bool
 | _,[]=>true
 | i,x::r=>nameR x&&(!((L.take i).any fun y=>y==x)&&namesR L (i+1) r)
theorem namesR_cons{L:LB}{i:Nat}{x:LU}{r:LB}:namesR L i (x::r)=(nameR x&&(!((L.take i).any fun y=>y==x)&&namesR L (i+1) r)):=rfl
def pathB(s:LU):Bool := !(s.any fun c=>oddI (c.toNat:Int))&&(decide ((1:Int)≤(s.length:Nat))&&decide (((s.length:Nat):Int)≤100))
theorem loop96_0{L:LB}{l:Int}{s:LU}{es:LA}(hb:L.length<4611686018427387904){k:KK}{X Y:OO}(h1:∀ fr hp nx,k .ret ⟨(2,.bool false)::fr,hp,nx,[]⟩=X)(h2:∀ fr hp nx,k (.exit 1) ⟨fr,hp,nx,[]⟩=Y) :
  ∀(rest:LB)(i:Nat),L.drop i=rest→lpN ⟨140,0,kpOf 96,noTab⟩ (lp Tryz.f96 0) ⟨[(1,.ptr 0 0),(117,.sl 1 (L.map sC)),(118,iA L.length),(119,iA i)],[(0,.var 38 [iA 5,iA l,.str s,.sl 1 (L.map sC),.sl 5 es])],1,[]⟩ k=br (namesR L i rest) Y X
 | [],i,hd=>by
   have hi:=drop_ge hd
   unfold lpN
   conv=>lhs;arg 2;whnf
   simp +contextual -implicitDefEqProofs (maxSteps:=9^9) only [↓wkA,↓lv96,↓fz96,wuH,↓reduceIte,xA,xB,xC,xD,xE,xF,reduceCtorEq,xH,xI,xJ,xK,xL,xM,xN,xO,hi,h1,h2,namesR,wbr]
 | b::rest,i,hd=>by
   have hi:=drop_lt hd
   have hbi:=drop_at hd
   have hd2:=drop_nx hd
   have hlt:i<L.length:=by simpa using hi
   have hw:IntKind.i64.wrap ((i:Int)+1)=((i+1:Nat):Int):=wrap_succ (by omega)
   have ih:=loop96_0 (l:=l) (s:=s) (es:=es) hb h1 h2 rest (i+1) hd2
   have hrn:=run192 (s:=b)
   cases hnm:nameR b with
   | false =>
     rw [hnm] at hrn
     unfold lpN
     conv=>lhs;arg 2;whnf
     simp +contextual -implicitDefEqProofs (maxSteps:=9^9) only [↓wkA,↓lv96,↓fz96,wuH,↓reduceIte,xA,xB,xC,xD,xE,xF,reduceCtorEq,xH,xI,xJ,xK,xL,xM,xN,xO,hi,hbi,hrn,h1,namesR,hnm,map_get,wbr]
   | true =>
     rw [hnm] at hrn
     unfold lpN
     conv=>lhs;arg 2;whnf
     simp +contextual -implicitDefEqProofs (maxSteps:=9^9) only [↓wkA,↓lv96,↓fz96,wuH,↓reduceIte,xA,xB,xC,xD,xE,xF,reduceCtorEq,xH,xI,xJ,xK,xL,xM,xN,xO,hi,hbi,hrn,map_get,wbr]
     refine(lpX_code (c':=lp Tryz.f96 1) (by kernel_rfl)).trans ?_
     rw [lq96_1]
     try simp +contextual -implicitDefEqProofs (maxSteps:=9^9) only [↓wkA,↓lv96,↓fz96,wuH,↓reduceIte,xA,xB,xC,xD,xE,xF,reduceCtorEq,xH,xI,xJ,xK,xL,xM,xN,xO,hi,hbi,hrn,map_get,wbr]
     refine(loop96_1 (l:=l) (s:=s) (x:=b) (es:=es) (n:=i) (X:=X) (Y:=br (namesR L (i+1) rest) Y X) hb (by omega) ?_ ?_ (L.take i) 0 rfl).trans ?_
     ·intro fr hp nx
      simp +contextual -implicitDefEqProofs (maxSteps:=9^9) only [↓wkA,↓lv96,↓fz96,wuH,↓reduceIte,xA,xB,xC,xD,xE,xF,reduceCtorEq,xH,xI,xJ,xK,xL,xM,xN,xO,h1,wbr]
     ·intro fr nx e1 e2 e3 e4
      simp +contextual -implicitDefEqProofs (maxSteps:=9^9) only [↓wkA,↓lv96,↓fz96,wuH,↓reduceIte,xA,xB,xC,xD,xE,xF,reduceCtorEq,xH,xI,xJ,xK,xL,xM,xN,xO,e1,e2,e3,e4,hw,ih,lq96_0,wbr]
     ·rw [namesR_cons,hnm]
      cases (L.take i).any fun y=>y==b<;>rfl
theorem run96x0{l:Int}{s:LU}{L:LB}{es:LA}(hs:s.length<4611686018427387904)(q0:(!(l==0))=true):evW 96 [tv 5 l s (L.map sC) es] []=oR (.bool false):=by
 have h191:=run191 hs
 change _=some (AE.ret (.bool (pathB s)),[]) at h191
 rw [w96 rfl]
 conv=>lhs;arg 2;whnf
 simp +contextual -implicitDefEqProofs (maxSteps:=9^9) only [↓wkA,↓lv96,↓fz96,wuH,↓reduceIte,xA,xB,xC,xD,xE,xF,reduceCtorEq,xH,xI,xJ,xK,xL,xM,xN,xO,q0,h191,wbr]
theorem run96x1{l:Int}{s:LU}{L:LB}{es:LA}(hs:s.length<4611686018427387904)(q0:(!(l==0))=false)(q1:(!(((es.length:Nat):Int)==0))=true):evW 96 [tv 5 l s (L.map sC) es] []=oR (.bool false):=by
 have h191:=run191 hs
 change _=some (AE.ret (.bool (pathB s)),[]) at h191
 rw [w96 rfl]
 conv=>lhs;arg 2;whnf
 simp +contextual -implicitDefEqProofs (maxSteps:=9^9) only [↓wkA,↓lv96,↓fz96,wuH,↓reduceIte,xA,xB,xC,xD,xE,xF,reduceCtorEq,xH,xI,xJ,xK,xL,xM,xN,xO,q0,q1,h191,wbr]
theorem run96x2{l:Int}{s:LU}{L:LB}{es:LA}(hs:s.length<4611686018427387904)(q0:(!(l==0))=false)(q1:(!(((es.length:Nat):Int)==0))=false)(q2:(!pathB s)=true):evW 96 [tv 5 l s (L.map sC) es] []=oR (.bool false):=by
 have h191:=run191 hs
 change _=some (AE.ret (.bool (pathB s)),[]) at h191
 rw [w96 rfl]
 conv=>lhs;arg 2;whnf
 simp +contextual -implicitDefEqProofs (maxSteps:=9^9) only [↓wkA,↓lv96,↓fz96,wuH,↓reduceIte,xA,xB,xC,xD,xE,xF,reduceCtorEq,xH,xI,xJ,xK,xL,xM,xN,xO,q0,q1,q2,h191,wbr]
theorem run96x3{l:Int}{s:LU}{L:LB}{es:LA}(hs:s.length<4611686018427387904)(q0:(!(l==0))=false)(q1:(!(((es.length:Nat):Int)==0))=false)(q2:(!pathB s)=false)(q3:decide (((L.length:Nat):Int)<1)=true):evW 96 [tv 5 l s (L.map sC) es] []=oR (.bool false):=by
 have h191:=run191 hs
 change _=some (AE.ret (.bool (pathB s)),[]) at h191
 rw [w96 rfl]
 conv=>lhs;arg 2;whnf
 simp +contextual -implicitDefEqProofs (maxSteps:=9^9) only [↓wkA,↓lv96,↓fz96,wuH,↓reduceIte,xA,xB,xC,xD,xE,xF,reduceCtorEq,xH,xI,xJ,xK,xL,xM,xN,xO,q0,q1,q2,q3,h191,wbr]
theorem run96x4{l:Int}{s:LU}{L:LB}{es:LA}(hs:s.length<4611686018427387904)(q0:(!(l==0))=false)(q1:(!(((es.length:Nat):Int)==0))=false)(q2:(!pathB s)=false)(q3:decide (((L.length:Nat):Int)<1)=false)(q4:decide ((16:Int)<(L.length:Nat))=true):evW 96 [tv 5 l s (L.map sC) es] []=oR (.bool false):=by
 have h191:=run191 hs
 change _=some (AE.ret (.bool (pathB s)),[]) at h191
 rw [w96 rfl]
 conv=>lhs;arg 2;whnf
 simp +contextual -implicitDefEqProofs (maxSteps:=9^9) only [↓wkA,↓lv96,↓fz96,wuH,↓reduceIte,xA,xB,xC,xD,xE,xF,reduceCtorEq,xH,xI,xJ,xK,xL,xM,xN,xO,q0,q1,q2,q3,q4,h191,wbr]
theorem run96e{l:Int}{s:LU}{L:LB}{es:LA}(hs:s.length<4611686018427387904)(q0:(!(l==0))=false)(q1:(!(((es.length:Nat):Int)==0))=false)(q2:(!pathB s)=false)(q3:decide (((L.length:Nat):Int)<1)=false)(q4:decide ((16:Int)<(L.length:Nat))=false):evW 96 [tv 5 l s (L.map sC) es] []=oR (.bool (namesR L 0 L)):=by
 have hb:L.length<4611686018427387904:=by simp at q4;omega
 have h191:=run191 hs
 change _=some (AE.ret (.bool (pathB s)),[]) at h191
 rw [w96 rfl]
 conv=>lhs;arg 2;whnf
 simp +contextual -implicitDefEqProofs (maxSteps:=9^9) only [↓wkA,↓lv96,↓fz96,wuH,↓reduceIte,xA,xB,xC,xD,xE,xF,reduceCtorEq,xH,xI,xJ,xK,xL,xM,xN,xO,q0,q1,q2,q3,q4,h191,wbr]
 refine(lpX_code (c':=lp Tryz.f96 0) (by kernel_rfl)).trans ?_
 rw [lq96_0]
 try simp +contextual -implicitDefEqProofs (maxSteps:=9^9) only [↓wkA,↓lv96,↓fz96,wuH,↓reduceIte,xA,xB,xC,xD,xE,xF,reduceCtorEq,xH,xI,xJ,xK,xL,xM,xN,xO,q0,q1,q2,q3,q4,h191,wbr]
 refine(loop96_0 (l:=l) (s:=s) (es:=es) (X:=oR (.bool false)) (Y:=oR (.bool true)) hb ?_ ?_ L 0 rfl).trans ?_
 ·intro fr hp nx
  simp +contextual -implicitDefEqProofs (maxSteps:=9^9) only [↓wkA,↓lv96,↓fz96,wuH,↓reduceIte,xA,xB,xC,xD,xE,xF,reduceCtorEq,xH,xI,xJ,xK,xL,xM,xN,xO,wbr]
 ·intro fr hp nx
  simp +contextual -implicitDefEqProofs (maxSteps:=9^9) only [↓wkA,↓lv96,↓fz96,wuH,↓reduceIte,xA,xB,xC,xD,xE,xF,reduceCtorEq,xH,xI,xJ,xK,xL,xM,xN,xO,wbr]
 cases namesR L 0 L<;>rfl
def enumR(l:Int)(s:LU)(L:LB)(m:Nat):Bool := !(!(l==0))&&(!(!((m:Int)==0))&&(!(!pathB s)&&(!decide (((L.length:Nat):Int)<1)&&(!decide ((16:Int)<(L.length:Nat))&&namesR L 0 L))))
theorem run96k5{l:Int}{s:LU}{L:LB}{es:LA}(hs:s.length<4611686018427387904):evW 96 [tv 5 l s (L.map sC) es] []=oR (.bool (enumR l s L es.length)):=by
 unfold enumR
 cases q0:(!(l==0)) with
 | true=>exact run96x0 hs q0
 | false =>
 cases q1:(!(((es.length:Nat):Int)==0)) with
 | true=>exact run96x1 hs q0 q1
 | false =>
 cases q2:(!pathB s) with
 | true=>exact run96x2 hs q0 q1 q2
 | false =>
 cases q3:decide (((L.length:Nat):Int)<1) with
 | true=>exact run96x3 hs q0 q1 q2 q3
 | false =>
 cases q4:decide ((16:Int)<(L.length:Nat)) with
 | true=>exact run96x4 hs q0 q1 q2 q3 q4
 | false =>
 exact run96e hs q0 q1 q2 q3 q4
end Go.Proofs.YtdhcgankmhpgeaaGreat.M
namespace Go.Proofs.YtdhcgankmhpgeaaGreat.M
open Go
set_option maxRecDepth 100000
set_option maxHeartbeats 4000000
attribute [local congr] br_congr ob2_congr cnd_congr gdK_congr ob_congr clK_congr finK_congr reg_congr pkK_congr kTK_congr dlT_congr gck_congr iff2_congr sel_congr dPn_congr apJ_congr nmK_congr kTo_congr fzO_congr rcK_congr lvB_congr crK_congr cdB_congr
theorem odd_eq(c:UInt8):oddI (c.toNat:Int)=oddN c.toNat:=by
 have h:∀ n,n<256→oddI ((n:Nat):Int)=oddN n:=by decide +kernel
 exact h _ c.toNat_lt
theorem any_odd(s:LU):(s.any fun c=>oddI (c.toNat:Int))=s.any fun b=>oddN b.toNat:=by
 congr 1
 funext c
 exact odd_eq c
theorem any_comm(x:LU)(l:LB):(l.any fun y=>y==x)=l.any fun y=>x==y:=by
 congr 1
 funext y
 exact Bool.beq_comm
theorem names_eq(L:LB):∀(r:LB)(i:Nat),namesR L i r=namesF L i r
 | [],_=>rfl
 | x::r,i=>by
   rw [namesR_cons,names_eq L r,name_eq,any_comm,show namesF L i (x::r)=((nameP x && !((L.take i).any fun y=>x==y))&&namesF L (i+1) r) from rfl,Bool.and_assoc]
theorem len_zero{s:LU}:decide ((1:Int)≤(s.length:Nat)) = !(s==[]):=by
 cases s with
 | nil=>rfl
 | cons c r =>
   rw [cons_ne]
   simp
   omega
theorem path_eq(s:LU):pathB s=(!(s==[])&&(!decide ((100:Int)<(s.length:Nat)) && !(s.any fun b=>oddN b.toNat))):=by
 unfold pathB
 rw [any_odd,len_zero,show decide (((s.length:Nat):Int)≤100) = !decide ((100:Int)<(s.length:Nat)) by by_cases h:((s.length:Nat):Int)≤100<;>simp [h]<;>omega]
 cases (s.any fun b=>oddN b.toNat)<;>cases (s==[])<;>simp
theorem enum_eq(l:Int)(s:LU)(L:LB)(m:Nat):enumR l s L m=(plainB false true false l s L.length m&&enumP s L):=by
 unfold enumR plainB enumP
 rw [path_eq,names_eq]
 cases (l==0)<;>cases ((m:Int)==0)<;>cases (s==[])<;>cases decide ((100:Int)<(s.length:Nat))<;>cases (s.any fun b=>oddN b.toNat)<;>simp
def valid0(k l:Int)(s:LU)(L:LB)(m:Nat):Bool :=
 if k==1||(k==2||k==3) then plainB false false false l s L.length m
 else if k==4 then plainB true false false l s L.length m&&(decide (1≤l)&&decide (l≤64))
 else if k==5 then plainB false true false l s L.length m&&enumP s L
 else false
def kindT:TT→Int
 | .mk k _ _ _ _=>k
def validT:TT→Bool
 | .mk k l s L [e]=>if k==6 then plainB true false true l s L.length 1&&((decide (1≤l)&&decide (l≤64))&&(!(kindT e==6)&&validT e)) else valid0 k l s L 1
 | .mk k l s L []=>if k==6 then false else valid0 k l s L 0
 | .mk k l s L (_::_::r)=>if k==6 then false else valid0 k l s L (r.length+2)
def tSm:TT→Prop
 | .mk _ _ s ns es=>s.length≤300∧ns.length≤40∧es.length≤3∧∀ e∈es,tSm e
abbrev tA(t:TT):AV := .agg (tC t)
abbrev vA(v:VT):AV := .agg (vC v)
theorem tA_mk{k l:Int}{s:LU}{L:LB}{es:List TT}:tA (.mk k l s L es)=tv k l s (L.map sC) (es.map tC):=by
 unfold tA
 rw [tC]
 rfl
theorem tC_mk{k l:Int}{s:LU}{L:LB}{es:List TT}:tC (.mk k l s L es)=[iA k,iA l,.str s,.sl 1 (L.map sC),.sl 5 (es.map tC)]:=by
 rw [tC]
 rfl
theorem run94_0{k l:Int}{s:LU}{L:LB}{es:LA}(h6:(k==6)=false):evW 94 [tv k l s (L.map sC) es] []=oR (.bool (valid0 k l s L es.length)):=by
 by_cases h:k=1
 ·subst h;exact run94k1
 by_cases h:k=2
 ·subst h;exact run94k2
 by_cases h:k=3
 ·subst h;exact run94k3
 by_cases h:k=4
 ·subst h;exact run94k4
 by_cases h:k=5
 ·subst h;exact run94k5
 have a1:(k==1)=false:=by simpa
 have a2:(k==2)=false:=by simpa
 have a3:(k==3)=false:=by simpa
 have a4:(k==4)=false:=by simpa
 have a5:(k==5)=false:=by simpa
 unfold valid0
 rw [a1,a2,a3,a4,a5]
 exact run94x a1 a2 a3 a4 a5 h6
theorem run94T:∀(t:TT),evW 94 [tA t] []=oR (.bool (validT t))
 | .mk k l s L []=>by
   rw [tA_mk,validT]
   cases h:k==6 with
   | true =>
     have:=eq_of_beq h
     subst this
     exact run94a0 rfl
   | false=>exact run94_0 h
 | .mk k l s L [.mk k2 l2 s2 L2 es2]=>by
   rw [tA_mk,validT]
   cases h:k==6 with
   | true =>
     have:=eq_of_beq h
     subst this
     have ih:=run94T (.mk k2 l2 s2 L2 es2)
     rw [tA_mk] at ih
     rw [List.map_cons,List.map_nil,tC_mk]
     exact run94a1 ih
   | false=>exact run94_0 h
 | .mk k l s L (a::b::r)=>by
   rw [tA_mk,validT]
   cases h:k==6 with
   | true =>
     have:=eq_of_beq h
     subst this
     exact run94a0 (by simp;omega)
   | false =>
     have:=run94_0 (k:=k) (l:=l) (s:=s) (L:=L) (es:=(a::b::r).map tC) h
     simpa using this
theorem run96_0{k l:Int}{s:LU}{L:LB}{es:LA}(hs:s.length<4611686018427387904)(h6:(k==6)=false):evW 96 [tv k l s (L.map sC) es] []=oR (.bool (valid0 k l s L es.length)):=by
 have e1:(l==0&&(((s==[])&&((L.length:Nat):Int)==0)&&((es.length:Nat):Int)==0))=plainB false false false l s L.length es.length:=by
  unfold plainB
  cases (l==0)<;>cases (s==[])<;>cases (((L.length:Nat):Int)==0)<;>cases (((es.length:Nat):Int)==0)<;>rfl
 have e2:((decide (1≤l)&&decide (l≤64))&&(((s==[])&&((L.length:Nat):Int)==0)&&((es.length:Nat):Int)==0))=(plainB true false false l s L.length es.length&&(decide (1≤l)&&decide (l≤64))):=by
  unfold plainB
  cases (decide (1≤l)&&decide (l≤64))<;>cases (s==[])<;>cases (((L.length:Nat):Int)==0)<;>cases (((es.length:Nat):Int)==0)<;>rfl
 by_cases h:k=1
 ·subst h;exact run96k1.trans (by rw [e1];rfl)
 by_cases h:k=2
 ·subst h;exact run96k2.trans (by rw [e1];rfl)
 by_cases h:k=3
 ·subst h;exact run96k3.trans (by rw [e1];rfl)
 by_cases h:k=4
 ·subst h;exact run96k4.trans (by rw [e2];rfl)
 by_cases h:k=5
 ·subst h;exact(run96k5 hs).trans (by rw [enum_eq];rfl)
 have a1:(k==1)=false:=by simpa
 have a2:(k==2)=false:=by simpa
 have a3:(k==3)=false:=by simpa
 have a4:(k==4)=false:=by simpa
 have a5:(k==5)=false:=by simpa
 unfold valid0
 rw [a1,a2,a3,a4,a5]
 exact run96x a1 a2 a3 a4 a5 h6
theorem run96T:∀(t:TT),tSm t→evW 96 [tA t] []=oR (.bool (validT t))
 | .mk k l s L [],ht=>by
   rw [tSm] at ht
   rw [tA_mk,validT]
   cases h:k==6 with
   | true =>
     have:=eq_of_beq h
     subst this
     exact run96a0 rfl
   | false=>exact run96_0 (by omega) h
 | .mk k l s L [.mk k2 l2 s2 L2 es2],ht=>by
   rw [tSm] at ht
   rw [tA_mk,validT]
   cases h:k==6 with
   | true =>
     have:=eq_of_beq h
     subst this
     have ih:=run96T (.mk k2 l2 s2 L2 es2) (ht.2.2.2 _ (List.mem_singleton.2 rfl))
     rw [tA_mk] at ih
     rw [List.map_cons,List.map_nil,tC_mk]
     refine(run96a1 ih).trans ?_
     unfold plainB kindT
     cases (decide (1≤l)&&decide (l≤64))<;>cases (s==[])<;>cases (((L.length:Nat):Int)==0)<;>rfl
   | false=>exact run96_0 (by omega) h
 | .mk k l s L (a::b::r),ht=>by
   rw [tSm] at ht
   rw [tA_mk,validT]
   cases h:k==6 with
   | true =>
     have:=eq_of_beq h
     subst this
     exact run96a0 (by simp;omega)
   | false =>
     have:=run96_0 (k:=k) (l:=l) (s:=s) (L:=L) (es:=(a::b::r).map tC) (by omega) h
     simpa using this
open Nat renaming reduceEqDiff → xA, reduceLT → xB, reduceAdd → xC, reduceMul → xD, reduceSub → xE, reduceDiv → xF, reduceLeDiff → xN
open Int renaming reduceAdd → xH, reduceLE → xI, reduceLT → xJ, reduceToNat → xK, reduceEq → xL, reduceBEq → xM
open UInt8 renaming reduceToNat → xO
def eqS:LB→LB→Bool
 | [],_=>true
 | x::r,y::s=>(x==y)&&eqS r s
 | _::_,[]=>false
theorem eqS_cons{x y:LU}{r s:LB}:eqS (x::r) (y::s)=((x==y)&&eqS r s):=rfl
theorem eqS_eq:∀(L M:LB),L.length=M.length→eqS L M=(L==M)
 | [],[],_=>rfl
 | x::r,y::s,h=>by
   rw [eqS_cons,eqS_eq r s (by simpa using h)]
   rfl
theorem ne_len{L M:LB}(h:¬ L.length=M.length):(L==M)=false:=by
 cases e:(L==M)
 ·rfl
 ·exact absurd (congrArg List.length (eq_of_beq e)) h
theorem loop294_0{L M:LB}(hl:L.length=M.length)(hb:L.length<4611686018427387904){k:KK}{X Y:OO}(h1:∀ fr nx,k .ret ⟨(4,.bool false)::fr,[],nx,[]⟩=X)(h2:∀ fr nx,k (.exit 0) ⟨fr,[],nx,[]⟩=Y) :
  ∀(rest:LB)(i:Nat) ,L.drop i=rest→lpN ⟨26,0,kpOf 294,tb294⟩ (lp Tryz.f294 0) ⟨[(0,.sl 1 (L.map sC)),(1,.sl 1 (M.map sC)),(12,iA L.length),(13,iA i)],[],0,[]⟩ k=br (eqS rest (M.drop i)) Y X
 | [],i,hd=>by
   have hi:=drop_ge hd
   unfold lpN
   conv=>lhs;arg 2;whnf
   simp +contextual -implicitDefEqProofs (maxSteps:=9^9) only [↓wkA,↓lv294,↓fz294,↓tbr294,wuA,↓reduceIte,xA,xB,xC,xD,xE,xF,reduceCtorEq,xH,xI,xJ,xK,xL,xM,xN,xO,hi,h1,h2,eqS,wbr]
 | b::rest,i,hd=>by
   have hi:=drop_lt hd
   have hbi:=drop_at hd
   have hd2:=drop_nx hd
   have hw:IntKind.i64.wrap ((i:Int)+1)=((i+1:Nat):Int):=wrap_succ (by simp at hi;omega)
   obtain⟨c,hc⟩:∃ c,M[i]?=some c:=by
    simp at hi
    exact⟨_,List.getElem?_eq_getElem (by omega)⟩
   have hdc:M.drop i=c::M.drop (i+1):=by
    obtain⟨hlt,e⟩:=List.getElem?_eq_some_iff.1 hc
    rw [List.drop_eq_getElem_cons hlt,e]
   have ih:=loop294_0 hl hb h1 h2 rest (i+1) hd2
   unfold lpN
   conv=>lhs;arg 2;whnf
   simp +contextual -implicitDefEqProofs (maxSteps:=9^9) only [↓wkA,↓lv294,↓fz294,↓tbr294,wuA,↓reduceIte,xA,xB,xC,xD,xE,xF,reduceCtorEq,xH,xI,xJ,xK,xL,xM,xN,xO,hi,hw,hbi,map_get,lq294_0,h1,h2,hdc,eqS_cons,hc,ih,wbr]
theorem run294{L M:LB}(hb:L.length<4611686018427387904):evW 294 [.sl 1 (L.map sC),.sl 1 (M.map sC)] []=oR (.bool (L==M)):=by
 by_cases hl:L.length=M.length
 ·rw [← eqS_eq L M hl]
  have hl2:(((L.length:Nat):Int)==(M.length:Nat))=true:=by simp;omega
  rw [w294 rfl]
  conv=>lhs;arg 2;whnf
  simp +contextual -implicitDefEqProofs (maxSteps:=9^9) only [↓wkA,↓lv294,↓fz294,↓tbr294,wuA,↓reduceIte,xA,xB,xC,xD,xE,xF,reduceCtorEq,xH,xI,xJ,xK,xL,xM,xN,xO,hl2,wbr]
  refine(lpX_code (c':=lp Tryz.f294 0) (by kernel_rfl)).trans ?_
  rw [lq294_0]
  try simp +contextual -implicitDefEqProofs (maxSteps:=9^9) only [↓wkA,↓lv294,↓fz294,↓tbr294,wuH,↓reduceIte,xA,xB,xC,xD,xE,xF,reduceCtorEq,xH,xI,xJ,xK,xL,xM,xN,xO,hl2,wbr]
  refine(loop294_0 (X:=oR (.bool false)) (Y:=oR (.bool true)) hl hb ?_ ?_ L 0 rfl).trans ?_
  ·intro fr nx
   simp +contextual -implicitDefEqProofs (maxSteps:=9^9) only [↓wkA,↓lv294,↓fz294,↓tbr294,wuA,↓reduceIte,xA,xB,xC,xD,xE,xF,reduceCtorEq,xH,xI,xJ,xK,xL,xM,xN,xO,wbr]
  ·intro fr nx
   simp +contextual -implicitDefEqProofs (maxSteps:=9^9) only [↓wkA,↓lv294,↓fz294,↓tbr294,wuA,↓reduceIte,xA,xB,xC,xD,xE,xF,reduceCtorEq,xH,xI,xJ,xK,xL,xM,xN,xO,wbr]
  ·rw [List.drop_zero]
   cases eqS L M<;>rfl
 ·rw [ne_len hl]
  have hl2:(((L.length:Nat):Int)==(M.length:Nat))=false:=by simp;omega
  rw [w294 rfl]
  conv=>lhs;arg 2;whnf
  simp +contextual -implicitDefEqProofs (maxSteps:=9^9) only [↓wkA,↓lv294,↓fz294,↓tbr294,wuA,↓reduceIte,xA,xB,xC,xD,xE,xF,reduceCtorEq,xH,xI,xJ,xK,xL,xM,xN,xO,hl2,wbr]
end Go.Proofs.YtdhcgankmhpgeaaGreat.M
