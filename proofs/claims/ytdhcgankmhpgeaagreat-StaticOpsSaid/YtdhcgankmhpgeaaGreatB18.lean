import Derived.Test.YtdhcgankmhpgeaaGreatB17
set_option linter.all false
namespace Go.Proofs.YtdhcgankmhpgeaaGreat.M
open Go
open Nat renaming reduceEqDiff → xA, reduceLT → xB, reduceAdd → xC, reduceMul → xD, reduceSub → xE, reduceDiv → xF, reduceLeDiff → xN
open Int renaming reduceAdd → xH, reduceLE → xI, reduceLT → xJ, reduceToNat → xK, reduceEq → xL, reduceBEq → xM
open UInt8 renaming reduceToNat → xO
set_option maxRecDepth 100000
set_option maxHeartbeats 4000000
attribute [local congr] br_congr ob2_congr cnd_congr gdK_congr ob_congr clK_congr finK_congr reg_congr pkK_congr kTK_congr dlT_congr gck_congr iff2_congr sel_congr dPn_congr apJ_congr nmK_congr kTo_congr fzO_congr rcK_congr lvB_congr crK_congr cdB_congr
theorem run71g{k n z:Int}{bs:LI}{ls:List VT}(hv:∀ v∈ls,∀ z:Int,0≤z→z≤9000→evW 71 [vA v,iA z] []=oR (iA (partsV v z)))(h0:0≤z)(hz:z≤9000)(hl:bs.length≤9223372036854775807):evW 71 [.agg [iA k,iA n,bitsA bs,.sl 4 (ls.map vC)],iA z] []=oR (iA (partsL ls (z-1-(bs.length:Nat)))):=by
 have hwp:=wrapP h0 hz hl
 rw [w71 rfl]
 conv=>lhs;arg 2;whnf
 simp +contextual -implicitDefEqProofs (maxSteps:=9^9) only [↓wkA,↓lv71,↓fz71,wuH,↓reduceIte,xA,xB,xC,xD,xE,xF,reduceCtorEq,xH,xI,xJ,xK,xL,xM,xN,xO,hwp,wbr]
 refine(lpX_code (c':=lp Tryz.f71 0) (by kernel_rfl)).trans ?_
 rw [lq71_0]
 try simp +contextual -implicitDefEqProofs (maxSteps:=9^9) only [↓wkA,↓lv71,↓fz71,wuH,↓reduceIte,xA,xB,xC,xD,xE,xF,reduceCtorEq,xH,xI,xJ,xK,xL,xM,xN,xO,hwp,wbr]
 refine(loop71_0 (X:=fun z=>oR (iA z)) hv ?_ ?_ ls 0 (z-1-(bs.length:Nat)) (by omega) (by omega) rfl).trans ?_
 ·intro z fr hp nx
  simp +contextual -implicitDefEqProofs (maxSteps:=9^9) only [↓wkA,↓lv71,↓fz71,wuH,↓reduceIte,xA,xB,xC,xD,xE,xF,reduceCtorEq,xH,xI,xJ,xK,xL,xM,xN,xO,wbr]
 ·intro z fr hp nx hl
  simp +contextual -implicitDefEqProofs (maxSteps:=9^9) only [↓wkA,↓lv71,↓fz71,wuH,↓reduceIte,xA,xB,xC,xD,xE,xF,reduceCtorEq,xH,xI,xJ,xK,xL,xM,xN,xO,hl,wbr]
 rfl
theorem run71T:∀(v:VT),vOk v→∀ z:Int,0≤z→z≤9000→evW 71 [vA v,iA z] []=oR (iA (partsV v z))
 | .mk k n bs ls,hv,z,h0,hz=>by
   rw [vOk] at hv
   rw [vA_mk,partsV]
   exact run71g (fun v hm=>run71T v (hv.2.2 v hm)) h0 hz hv.1
def kidsN:TT→Nat
 | .mk _ _ _ _ es=>es.length
theorem kidsN_mk{k l:Int}{s:LU}{ns:LB}{es:List TT}:kidsN (.mk k l s ns es)=es.length:=rfl
mutual
def smallT:TT→Bool
 | .mk _ _ s ns es => !decide ((300:Int)<(s.length:Nat))&&(!decide ((40:Int)<(ns.length:Nat))&&(!decide ((3:Int)<(es.length:Nat))&&(!(ns.any fun s=>decide ((100:Int)<(s.length:Nat))) && !(oddL es))))
def oddL:List TT→Bool
 | []=>false
 | x::r=>(decide ((2:Int)<(kidsN x:Nat)) || !smallT x)||oddL r
end
theorem oddL_any:∀(es:List TT),oddL es=es.any fun x=>decide ((2:Int)<(kidsN x:Nat)) || !smallT x
 | []=>by rw [oddL];rfl
 | x::r=>by rw [oddL,oddL_any r,List.any_cons]
theorem smallT_mk{k l:Int}{s:LU}{ns:LB}{es:List TT}:smallT (.mk k l s ns es)=(!decide ((300:Int)<(s.length:Nat))&&(!decide ((40:Int)<(ns.length:Nat))&&(!decide ((3:Int)<(es.length:Nat))&&(!(ns.any fun s=>decide ((100:Int)<(s.length:Nat))) && !(es.any fun x=>decide ((2:Int)<(kidsN x:Nat)) || !smallT x))))):=by
 rw [smallT,oddL_any]
theorem loop22_0{k1 l1:Int}{s1:LU}{L1:LB}{es1:LA}(hb:L1.length<4611686018427387904){k:KK}{X Y:OO}(h1:∀ fr hp nx,k .ret ⟨(4,.bool false)::fr,hp,nx,[]⟩=X)(h2:∀ fr nx,look 1 fr=some (.sl 4 [])→look 2 fr=some (.ptr 0 0)→k (.exit 0) ⟨fr,[(0,.var 38 [iA k1,iA l1,.str s1,.sl 1 (L1.map sC),.sl 5 es1])],nx,[]⟩=Y) :
  ∀(rest:LB)(i:Nat) ,L1.drop i=rest→lpN ⟨65,0,kpOf 22,noTab⟩ (lp Tryz.f22 0) ⟨[(1,.sl 4 []),(2,.ptr 0 0),(28,.sl 1 (L1.map sC)),(29,iA L1.length),(30,iA i)],[(0,.var 38 [iA k1,iA l1,.str s1,.sl 1 (L1.map sC),.sl 5 es1])],1,[]⟩ k=br (rest.any fun s=>decide ((100:Int)<(s.length:Nat))) X Y
 | [],i,hd=>by
   have hi:=drop_ge hd
   unfold lpN
   conv=>lhs;arg 2;whnf
   simp +contextual -implicitDefEqProofs (maxSteps:=9^9) only [↓wkA,↓lv22,↓fz22,wuH,↓reduceIte,xA,xB,xC,xD,xE,xF,reduceCtorEq,xH,xI,xJ,xK,xL,xM,xN,xO,hi,h1,h2,List.any_nil,wbr]
 | b::rest,i,hd=>by
   have hi:=drop_lt hd
   have hbi:=drop_at hd
   have hd2:=drop_nx hd
   have hw:IntKind.i64.wrap ((i:Int)+1)=((i+1:Nat):Int):=wrap_succ (by simp at hi;omega)
   have ih:=loop22_0 (k1:=k1) (l1:=l1) (s1:=s1) (es1:=es1) hb h1 h2 rest (i+1) hd2
   unfold lpN
   conv=>lhs;arg 2;whnf
   simp +contextual -implicitDefEqProofs (maxSteps:=9^9) only [↓wkA,↓lv22,↓fz22,wuH,↓reduceIte,xA,xB,xC,xD,xE,xF,reduceCtorEq,xH,xI,xJ,xK,xL,xM,xN,xO,hi,hw,hbi,map_get,lq22_0,h1,h2,List.any_cons,ih,wbr]
theorem loop22_1{es:List TT}{p:TT→Bool}(hg:∀ x∈es,evW 22 [tA x,.sl 4 []] []=oR (.bool (p x)))(hb:es.length<4611686018427387904){k:KK}{X Y:OO}(h1:∀ fr hp nx,k .ret ⟨(4,.bool false)::fr,hp,nx,[]⟩=X)(h2:∀ fr nx,look 1 fr=some (.sl 4 [])→k (.exit 2) ⟨fr,[],nx,[]⟩=Y) :
  ∀(rest:List TT)(i:Nat) ,es.drop i=rest→lpN ⟨65,0,kpOf 22,noTab⟩ (lp Tryz.f22 1) ⟨[(1,.sl 4 []),(39,.sl 5 (es.map tC)),(40,iA es.length),(41,iA i)],[],0,[]⟩ k=br (rest.any fun x=>decide ((2:Int)<(kidsN x:Nat)) || !p x) X Y
 | [],i,hd=>by
   have hi:=drop_ge hd
   unfold lpN
   conv=>lhs;arg 2;whnf
   simp +contextual -implicitDefEqProofs (maxSteps:=9^9) only [↓wkA,↓lv22,↓fz22,wuH,↓reduceIte,xA,xB,xC,xD,xE,xF,reduceCtorEq,xH,xI,xJ,xK,xL,xM,xN,xO,hi,h1,h2,List.any_nil,wbr]
 | b::rest,i,hd=>by
   have hi:=drop_lt hd
   have hbi:=drop_at hd
   have hd2:=drop_nx hd
   have hw:IntKind.i64.wrap ((i:Int)+1)=((i+1:Nat):Int):=wrap_succ (by simp at hi;omega)
   have ih:=loop22_1 hg hb h1 h2 rest (i+1) hd2
   have hc:=hg b (List.mem_of_getElem? hbi)
   obtain⟨kb,lb,sb,Lb,eb⟩:=b
   rw [tA_mk] at hc
   have hc2:evW 22 [tv kb lb sb (Lb.map sC) (eb.map tC),.nils] []=_:=evW_canon.trans ((by kernel_rfl:evW 22 (canVs (ashOf 22) [tv kb lb sb (Lb.map sC) (eb.map tC),.nils]) []=evW 22 [tv kb lb sb (Lb.map sC) (eb.map tC),.sl 4 []] []).trans hc)
   unfold lpN
   conv=>lhs;arg 2;whnf
   simp +contextual -implicitDefEqProofs (maxSteps:=9^9) only [↓wkA,↓lv22,↓fz22,wuH,↓reduceIte,xA,xB,xC,xD,xE,xF,reduceCtorEq,xH,xI,xJ,xK,xL,xM,xN,xO,hi,hw,hbi,map_get,lq22_1,h1,h2,List.any_cons,hc2,ih,tC_mk,kidsN_mk,wbr]
theorem run22x0G:(∀{k1 l1:Int}{s1:LU}{L1:LB}{es:List TT}{p:TT→Bool}(hg:∀ x∈es,evW 22 [tA x,.sl 4 []] []=oR (.bool (p x)))(q0:decide ((300:Int)<(s1.length:Nat))=true),evW 22 [tv k1 l1 s1 (L1.map sC) (es.map tC),.sl 4 []] []=oR (.bool false))∧(∀{k1 l1:Int}{s1:LU}{L1:LB}{es:List TT}{p:TT→Bool}(hg:∀ x∈es,evW 22 [tA x,.sl 4 []] []=oR (.bool (p x)))(q0:decide ((300:Int)<(s1.length:Nat))=false)(q1:decide ((40:Int)<(L1.length:Nat))=true),evW 22 [tv k1 l1 s1 (L1.map sC) (es.map tC),.sl 4 []] []=oR (.bool false))∧(∀{k1 l1:Int}{s1:LU}{L1:LB}{es:List TT}{p:TT→Bool}(hg:∀ x∈es,evW 22 [tA x,.sl 4 []] []=oR (.bool (p x)))(q0:decide ((300:Int)<(s1.length:Nat))=false)(q1:decide ((40:Int)<(L1.length:Nat))=false)(q2:decide ((3:Int)<(es.length:Nat))=true),evW 22 [tv k1 l1 s1 (L1.map sC) (es.map tC),.sl 4 []] []=oR (.bool false)):=by
 refine⟨?_,?_,?_⟩<;>intros<;>rw [w22 rfl]<;>conv=>lhs;arg 2;whnf
 all_goals simp +contextual -implicitDefEqProofs (maxSteps:=9^9) only [↓wkA,↓lv22,↓fz22,wuH,↓reduceIte,xA,xB,xC,xD,xE,xF,reduceCtorEq,xH,xI,xJ,xK,xL,xM,xN,xO, *,wbr]
def run22x0:=@run22x0G.1
def run22x1:=@run22x0G.2.1
def run22x2:=@run22x0G.2.2
theorem run22a{k1 l1:Int}{s1:LU}{L1:LB}{es:List TT}{p:TT→Bool}(hg:∀ x∈es,evW 22 [tA x,.sl 4 []] []=oR (.bool (p x)))(q0:decide ((300:Int)<(s1.length:Nat))=false)(q1:decide ((40:Int)<(L1.length:Nat))=false)(q2:decide ((3:Int)<(es.length:Nat))=false):evW 22 [tv k1 l1 s1 (L1.map sC) (es.map tC),.sl 4 []] []=oR (.bool (!(L1.any fun s=>decide ((100:Int)<(s.length:Nat))) && !(es.any fun x=>decide ((2:Int)<(kidsN x:Nat)) || !p x))):=by
 have hb:L1.length<4611686018427387904:=by simp at q1;omega
 have hb2:es.length<4611686018427387904:=by simp at q2;omega
 rw [w22 rfl]
 conv=>lhs;arg 2;whnf
 simp +contextual -implicitDefEqProofs (maxSteps:=9^9) only [↓wkA,↓lv22,↓fz22,wuH,↓reduceIte,xA,xB,xC,xD,xE,xF,reduceCtorEq,xH,xI,xJ,xK,xL,xM,xN,xO,q0,q1,q2,wbr]
 refine(lpX_code (c':=lp Tryz.f22 0) (by kernel_rfl)).trans ?_
 rw [lq22_0]
 try simp +contextual -implicitDefEqProofs (maxSteps:=9^9) only [↓wkA,↓lv22,↓fz22,wuH,↓reduceIte,xA,xB,xC,xD,xE,xF,reduceCtorEq,xH,xI,xJ,xK,xL,xM,xN,xO,q0,q1,q2,wbr]
 refine(loop22_0 (k1:=k1) (l1:=l1) (s1:=s1) (L1:=L1) (es1:=es.map tC) (X:=oR (.bool false)) (Y:=oR (.bool (!(es.any fun x=>decide ((2:Int)<(kidsN x:Nat)) || !p x)))) hb ?_ ?_ L1 0 rfl).trans ?_
 ·intro fr hp nx
  simp +contextual -implicitDefEqProofs (maxSteps:=9^9) only [↓wkA,↓lv22,↓fz22,wuH,↓reduceIte,xA,xB,xC,xD,xE,xF,reduceCtorEq,xH,xI,xJ,xK,xL,xM,xN,xO,wbr]
 ·intro fr nx e1 e2
  simp +contextual -implicitDefEqProofs (maxSteps:=9^9) only [↓wkA,↓lv22,↓fz22,wuH,↓reduceIte,xA,xB,xC,xD,xE,xF,reduceCtorEq,xH,xI,xJ,xK,xL,xM,xN,xO,e1,e2,wbr]
  refine(lpX_code (c':=lp Tryz.f22 1) (by kernel_rfl)).trans ?_
  rw [lq22_1]
  try simp +contextual -implicitDefEqProofs (maxSteps:=9^9) only [↓wkA,↓lv22,↓fz22,wuH,↓reduceIte,xA,xB,xC,xD,xE,xF,reduceCtorEq,xH,xI,xJ,xK,xL,xM,xN,xO,e1,e2,wbr]
  refine(loop22_1 hg (X:=oR (.bool false)) (Y:=oR (.bool true)) hb2 ?_ ?_ es 0 rfl).trans ?_
  ·intro fr hp nx
   simp +contextual -implicitDefEqProofs (maxSteps:=9^9) only [↓wkA,↓lv22,↓fz22,wuH,↓reduceIte,xA,xB,xC,xD,xE,xF,reduceCtorEq,xH,xI,xJ,xK,xL,xM,xN,xO,wbr]
  ·intro fr nx e3
   simp +contextual -implicitDefEqProofs (maxSteps:=9^9) only [↓wkA,↓lv22,↓fz22,wuH,↓reduceIte,xA,xB,xC,xD,xE,xF,reduceCtorEq,xH,xI,xJ,xK,xL,xM,xN,xO,e3,wbr]
   refine(lpX_code (c':=lp Tryz.f22 2) (by kernel_rfl)).trans ?_
   rw [lq22_2]
   try simp +contextual -implicitDefEqProofs (maxSteps:=9^9) only [↓wkA,↓lv22,↓fz22,wuH,↓reduceIte,xA,xB,xC,xD,xE,xF,reduceCtorEq,xH,xI,xJ,xK,xL,xM,xN,xO,e3,wbr]
   unfold lpN
   conv=>lhs;arg 2;whnf
   simp +contextual -implicitDefEqProofs (maxSteps:=9^9) only [↓wkA,↓lv22,↓fz22,wuH,↓reduceIte,xA,xB,xC,xD,xE,xF,reduceCtorEq,xH,xI,xJ,xK,xL,xM,xN,xO,wbr]
  ·cases (es.any fun x=>decide ((2:Int)<(kidsN x:Nat)) || !p x)<;>rfl
 ·cases (L1.any fun s=>decide ((100:Int)<(s.length:Nat)))<;>rfl
theorem run22T:∀(t:TT),evW 22 [tA t,.sl 4 []] []=oR (.bool (smallT t))
 | .mk k l s L es=>by
   have hg:∀ x∈es,evW 22 [tA x,.sl 4 []] []=oR (.bool (smallT x)):=fun x _=>run22T x
   rw [tA_mk,smallT_mk]
   cases q0:decide ((300:Int)<(s.length:Nat)) with
   | true=>exact run22x0 hg q0
   | false =>
   cases q1:decide ((40:Int)<(L.length:Nat)) with
   | true=>exact run22x1 hg q0 q1
   | false =>
   cases q2:decide ((3:Int)<(es.length:Nat)) with
   | true=>exact run22x2 hg q0 q1 (by simpa using q2)
   | false=>exact run22a hg q0 q1 q2
theorem run71z{vs:List VT}(hv:∀ v∈vs,vOk v):evW 71 [.agg [iA 0,iA 0,.nils,.sl 4 (vs.map vC)],iA 9000] []=oR (iA (partsL vs 8999)):=by
 have h:=run71g (k:=0) (n:=0) (z:=9000) (bs:=[]) (ls:=vs) (fun v hm=>run71T v (hv v hm)) (by omega) (by omega) (by simp)
 rw [show (9000:Int)-1-(([]:LI).length:Nat)=8999 from rfl] at h
 exact evW_canon.trans ((by kernel_rfl:evW 71 (canVs (ashOf 71) [.agg [iA 0,iA 0,.nils,.sl 4 (vs.map vC)],iA 9000]) []=evW 71 [.agg [iA 0,iA 0,bitsA [],.sl 4 (vs.map vC)],iA 9000] []).trans h)
theorem run22v{vs:List VT}{z:Int}(h71:evW 71 [.agg [iA 0,iA 0,.nils,.sl 4 (vs.map vC)],iA 9000] []=oR (iA z)):evW 22 [.agg [iA 0,iA 0,.str [],.sl 1 [],.sl 5 []],.row 0 0 1] [.arr 33 4 [[iA 0,iA 0,.nils,.sl 4 (vs.map vC)]]]=some (.ret (.bool (!decide (z<0))),[.arr 33 4 [[iA 0,iA 0,.nils,.sl 4 (vs.map vC)]]]):=by
 cases hz:decide (z<0) with
 | true =>
   rw [w22 rfl]
   conv=>lhs;arg 2;whnf
   simp +contextual -implicitDefEqProofs (maxSteps:=9^9) only [↓wkA,↓lv22,↓fz22,wuH,↓reduceIte,xA,xB,xC,xD,xE,xF,reduceCtorEq,xH,xI,xJ,xK,xL,xM,xN,xO,wbr]
   refine(lpX_code (c':=lp Tryz.f22 0) (by kernel_rfl)).trans ?_
   rw [lq22_0]
   try simp +contextual -implicitDefEqProofs (maxSteps:=9^9) only [↓wkA,↓lv22,↓fz22,wuH,↓reduceIte,xA,xB,xC,xD,xE,xF,reduceCtorEq,xH,xI,xJ,xK,xL,xM,xN,xO,wbr]
   unfold lpN
   conv=>lhs;arg 2;whnf
   simp +contextual -implicitDefEqProofs (maxSteps:=9^9) only [↓wkA,↓lv22,↓fz22,wuH,↓reduceIte,xA,xB,xC,xD,xE,xF,reduceCtorEq,xH,xI,xJ,xK,xL,xM,xN,xO,wbr]
   refine(lpX_code (c':=lp Tryz.f22 1) (by kernel_rfl)).trans ?_
   rw [lq22_1]
   try simp +contextual -implicitDefEqProofs (maxSteps:=9^9) only [↓wkA,↓lv22,↓fz22,wuH,↓reduceIte,xA,xB,xC,xD,xE,xF,reduceCtorEq,xH,xI,xJ,xK,xL,xM,xN,xO,wbr]
   unfold lpN
   conv=>lhs;arg 2;whnf
   simp +contextual -implicitDefEqProofs (maxSteps:=9^9) only [↓wkA,↓lv22,↓fz22,wuH,↓reduceIte,xA,xB,xC,xD,xE,xF,reduceCtorEq,xH,xI,xJ,xK,xL,xM,xN,xO,wbr]
   refine(lpX_code (c':=lp Tryz.f22 2) (by kernel_rfl)).trans ?_
   rw [lq22_2]
   try simp +contextual -implicitDefEqProofs (maxSteps:=9^9) only [↓wkA,↓lv22,↓fz22,wuH,↓reduceIte,xA,xB,xC,xD,xE,xF,reduceCtorEq,xH,xI,xJ,xK,xL,xM,xN,xO,wbr]
   unfold lpN
   conv=>lhs;arg 2;whnf
   simp +contextual -implicitDefEqProofs (maxSteps:=9^9) only [↓wkA,↓lv22,↓fz22,wuH,↓reduceIte,xA,xB,xC,xD,xE,xF,reduceCtorEq,xH,xI,xJ,xK,xL,xM,xN,xO,h71,lq22_2,hz,wbr]
 | false =>
   rw [w22 rfl]
   conv=>lhs;arg 2;whnf
   simp +contextual -implicitDefEqProofs (maxSteps:=9^9) only [↓wkA,↓lv22,↓fz22,wuH,↓reduceIte,xA,xB,xC,xD,xE,xF,reduceCtorEq,xH,xI,xJ,xK,xL,xM,xN,xO,wbr]
   refine(lpX_code (c':=lp Tryz.f22 0) (by kernel_rfl)).trans ?_
   rw [lq22_0]
   try simp +contextual -implicitDefEqProofs (maxSteps:=9^9) only [↓wkA,↓lv22,↓fz22,wuH,↓reduceIte,xA,xB,xC,xD,xE,xF,reduceCtorEq,xH,xI,xJ,xK,xL,xM,xN,xO,wbr]
   unfold lpN
   conv=>lhs;arg 2;whnf
   simp +contextual -implicitDefEqProofs (maxSteps:=9^9) only [↓wkA,↓lv22,↓fz22,wuH,↓reduceIte,xA,xB,xC,xD,xE,xF,reduceCtorEq,xH,xI,xJ,xK,xL,xM,xN,xO,wbr]
   refine(lpX_code (c':=lp Tryz.f22 1) (by kernel_rfl)).trans ?_
   rw [lq22_1]
   try simp +contextual -implicitDefEqProofs (maxSteps:=9^9) only [↓wkA,↓lv22,↓fz22,wuH,↓reduceIte,xA,xB,xC,xD,xE,xF,reduceCtorEq,xH,xI,xJ,xK,xL,xM,xN,xO,wbr]
   unfold lpN
   conv=>lhs;arg 2;whnf
   simp +contextual -implicitDefEqProofs (maxSteps:=9^9) only [↓wkA,↓lv22,↓fz22,wuH,↓reduceIte,xA,xB,xC,xD,xE,xF,reduceCtorEq,xH,xI,xJ,xK,xL,xM,xN,xO,wbr]
   refine(lpX_code (c':=lp Tryz.f22 2) (by kernel_rfl)).trans ?_
   rw [lq22_2]
   try simp +contextual -implicitDefEqProofs (maxSteps:=9^9) only [↓wkA,↓lv22,↓fz22,wuH,↓reduceIte,xA,xB,xC,xD,xE,xF,reduceCtorEq,xH,xI,xJ,xK,xL,xM,xN,xO,wbr]
   unfold lpN
   conv=>lhs;arg 2;whnf
   simp +contextual -implicitDefEqProofs (maxSteps:=9^9) only [↓wkA,↓lv22,↓fz22,wuH,↓reduceIte,xA,xB,xC,xD,xE,xF,reduceCtorEq,xH,xI,xJ,xK,xL,xM,xN,xO,h71,lq22_2,hz,wbr]
   unfold lpN
   conv=>lhs;arg 2;whnf
   simp +contextual -implicitDefEqProofs (maxSteps:=9^9) only [↓wkA,↓lv22,↓fz22,wuH,↓reduceIte,xA,xB,xC,xD,xE,xF,reduceCtorEq,xH,xI,xJ,xK,xL,xM,xN,xO,h71,wbr]
theorem run22w{vs:List VT}{z:Int}(h71:evW 71 [.agg [iA 0,iA 0,.nils,.sl 4 (vs.map vC)],iA 9000] []=oR (iA z)):evW 22 [.agg [iA 0,iA 0,.str [],.nils,.nils],.row 0 0 1] [.arr 33 4 [[iA 0,iA 0,.nils,.sl 4 (vs.map vC)]]]=some (.ret (.bool (!decide (z<0))),[.arr 33 4 [[iA 0,iA 0,.nils,.sl 4 (vs.map vC)]]]) :=
 evW_canon.trans ((by kernel_rfl:evW 22 (canVs (ashOf 22) [.agg [iA 0,iA 0,.str [],.nils,.nils],.row 0 0 1]) [.arr 33 4 [[iA 0,iA 0,.nils,.sl 4 (vs.map vC)]]]=evW 22 [.agg [iA 0,iA 0,.str [],.sl 1 [],.sl 5 []],.row 0 0 1] [.arr 33 4 [[iA 0,iA 0,.nils,.sl 4 (vs.map vC)]]]).trans (run22v h71))
theorem run19y{vs:List VT}(q:decide (((vs.length:Nat):Int)≤60)=true)(hv:∀ v∈vs,vOk v):evW 19 [.sl 4 (vs.map vC)] []=oR (.bool (!decide (partsL vs 8999<0))):=by
 have h3:=run22w (run71z hv)
 rw [w19 rfl]
 conv=>lhs;arg 2;whnf
 simp +contextual -implicitDefEqProofs (maxSteps:=9^9) only [↓wkA,↓lv19,↓fz19,wuH,↓reduceIte,xA,xB,xC,xD,xE,xF,reduceCtorEq,xH,xI,xJ,xK,xL,xM,xN,xO,q,h3,List.set_cons_zero,List.set_cons_succ,wbr]
def eqBits(xs ys:LI):Bool:=decide (((xs.length:Nat):Int)=(ys.length:Nat))&&eqFrom xs ys
mutual
def eqV:VT→VT→Bool
 | .mk k n bs ls,.mk k2 n2 bs2 ls2=>(k==k2)&&((n==n2)&&(eqBits bs bs2&&((((ls.length:Nat):Int)==(ls2.length:Nat))&&eqL ls ls2)))
def eqL:List VT→List VT→Bool
 | [],_=>true
 | x::r,y::s=>eqV x y&&eqL r s
 | _::_,[]=>false
end
theorem eqL_cons{x y:VT}{r s:List VT}:eqL (x::r) (y::s)=(eqV x y&&eqL r s):=by rw [eqL]
def allF(p:VT→VT→Bool):List VT→List VT→Bool
 | [],_=>true
 | x::r,y::s=>p x y&&allF p r s
 | _::_,[]=>false
theorem allF_cons{p:VT→VT→Bool}{x y:VT}{r s:List VT}:allF p (x::r) (y::s)=(p x y&&allF p r s):=rfl
theorem eqL_all:∀(l m:List VT),eqL l m=allF eqV l m
 | [],_=>by rw [eqL];rfl
 | x::r,y::s=>by rw [eqL_cons,eqL_all r s];rfl
 | _::_,[]=>by rw [eqL];rfl
theorem loop17_0{k1 n1 k2 n2:Int}{b1 b2:LI}{vs1 vs2:List VT}{p:VT→VT→Bool}(hg:∀ v w,v∈vs1→evW 17 [vA v,vA w] []=oR (.bool (p v w)))(hl:vs1.length=vs2.length)(hb:vs1.length<4611686018427387904){k:KK}{X Y:OO}(h1:∀ fr hp nx,k .ret ⟨(4,.bool false)::fr,hp,nx,[]⟩=X)(h2:∀ fr hp nx,k (.exit 0) ⟨fr,hp,nx,[]⟩=Y) :
  ∀(rest:List VT)(i:Nat) ,vs1.drop i=rest→lpN ⟨54,0,kpOf 17,tb17⟩ (lp Tryz.f17 0) ⟨[(2,.ptr 0 0),(3,.ptr 1 0),(37,iA vs1.length),(38,iA i)],[(0,.var 33 [iA k1,iA n1,bitsA b1,.sl 4 (vs1.map vC)]),(1,.var 33 [iA k2,iA n2,bitsA b2,.sl 4 (vs2.map vC)])],2,[]⟩ k=br (allF p rest (vs2.drop i)) Y X
 | [],i,hd=>by
   have hi:=drop_ge hd
   unfold lpN
   conv=>lhs;arg 2;whnf
   simp +contextual -implicitDefEqProofs (maxSteps:=9^9) only [↓wkA,↓lv17,↓fz17,↓tbr17,wuH,↓reduceIte,xA,xB,xC,xD,xE,xF,reduceCtorEq,xH,xI,xJ,xK,xL,xM,xN,xO,hi,h1,h2,allF,wbr]
 | b::rest,i,hd=>by
   have hi:=drop_lt hd
   have hbi:=drop_at hd
   have hd2:=drop_nx hd
   have hw:IntKind.i64.wrap ((i:Int)+1)=((i+1:Nat):Int):=wrap_succ (by simp at hi;omega)
   obtain⟨c,hc⟩:∃ c,vs2[i]?=some c:=by
    simp at hi
    exact⟨_,List.getElem?_eq_getElem (by omega)⟩
   have hdc:vs2.drop i=c::vs2.drop (i+1):=by
    obtain⟨hlt,e⟩:=List.getElem?_eq_some_iff.1 hc
    rw [List.drop_eq_getElem_cons hlt,e]
   have ih:=loop17_0 (k1:=k1) (n1:=n1) (k2:=k2) (n2:=n2) (b1:=b1) (b2:=b2) hg hl hb h1 h2 rest (i+1) hd2
   have hq:=hg b c (List.mem_of_getElem? hbi)
   obtain⟨kb,nb,bb,lb⟩:=b
   obtain⟨kc,nc,bc,lc⟩:=c
   rw [vA_mk,vA_mk] at hq
   unfold lpN
   conv=>lhs;arg 2;whnf
   simp +contextual -implicitDefEqProofs (maxSteps:=9^9) only [↓wkA,↓lv17,↓fz17,↓tbr17,wuH,↓reduceIte,xA,xB,xC,xD,xE,xF,reduceCtorEq,xH,xI,xJ,xK,xL,xM,xN,xO,hi,hw,hbi,map_get,lq17_0,h1,h2,hdc,allF_cons,hc,ih,hq,vC_mk,wbr]
theorem run17x0{k1 n1 k2 n2:Int}{b1 b2:LI}{vs1 vs2:List VT}(hx:b1.length<4611686018427387904)(q0:(!(k1==k2))=true):evW 17 [.agg [iA k1,iA n1,bitsA b1,.sl 4 (vs1.map vC)],.agg [iA k2,iA n2,bitsA b2,.sl 4 (vs2.map vC)]] []=oR (.bool false):=by
 have h59:=run59 (xs:=b1) (bs:=b2) hx
 change _=some (AE.ret (.bool (eqBits b1 b2)),[]) at h59
 rw [w17 rfl]
 conv=>lhs;arg 2;whnf
 simp +contextual -implicitDefEqProofs (maxSteps:=9^9) only [↓wkA,↓lv17,↓fz17,↓tbr17,wuH,↓reduceIte,xA,xB,xC,xD,xE,xF,reduceCtorEq,xH,xI,xJ,xK,xL,xM,xN,xO,q0,h59,wbr]
theorem run17x1{k1 n1 k2 n2:Int}{b1 b2:LI}{vs1 vs2:List VT}(hx:b1.length<4611686018427387904)(q0:(!(k1==k2))=false)(q1:(!(n1==n2))=true):evW 17 [.agg [iA k1,iA n1,bitsA b1,.sl 4 (vs1.map vC)],.agg [iA k2,iA n2,bitsA b2,.sl 4 (vs2.map vC)]] []=oR (.bool false):=by
 have h59:=run59 (xs:=b1) (bs:=b2) hx
 change _=some (AE.ret (.bool (eqBits b1 b2)),[]) at h59
 rw [w17 rfl]
 conv=>lhs;arg 2;whnf
 simp +contextual -implicitDefEqProofs (maxSteps:=9^9) only [↓wkA,↓lv17,↓fz17,↓tbr17,wuH,↓reduceIte,xA,xB,xC,xD,xE,xF,reduceCtorEq,xH,xI,xJ,xK,xL,xM,xN,xO,q0,q1,h59,wbr]
theorem run17x2{k1 n1 k2 n2:Int}{b1 b2:LI}{vs1 vs2:List VT}(hx:b1.length<4611686018427387904)(q0:(!(k1==k2))=false)(q1:(!(n1==n2))=false)(q2:(!eqBits b1 b2)=true):evW 17 [.agg [iA k1,iA n1,bitsA b1,.sl 4 (vs1.map vC)],.agg [iA k2,iA n2,bitsA b2,.sl 4 (vs2.map vC)]] []=oR (.bool false):=by
 have h59:=run59 (xs:=b1) (bs:=b2) hx
 change _=some (AE.ret (.bool (eqBits b1 b2)),[]) at h59
 rw [w17 rfl]
 conv=>lhs;arg 2;whnf
 simp +contextual -implicitDefEqProofs (maxSteps:=9^9) only [↓wkA,↓lv17,↓fz17,↓tbr17,wuH,↓reduceIte,xA,xB,xC,xD,xE,xF,reduceCtorEq,xH,xI,xJ,xK,xL,xM,xN,xO,q0,q1,q2,h59,wbr]
theorem run17x3{k1 n1 k2 n2:Int}{b1 b2:LI}{vs1 vs2:List VT}(hx:b1.length<4611686018427387904)(q0:(!(k1==k2))=false)(q1:(!(n1==n2))=false)(q2:(!eqBits b1 b2)=false)(q3:(!(((vs1.length:Nat):Int)==(vs2.length:Nat)))=true):evW 17 [.agg [iA k1,iA n1,bitsA b1,.sl 4 (vs1.map vC)],.agg [iA k2,iA n2,bitsA b2,.sl 4 (vs2.map vC)]] []=oR (.bool false):=by
 have h59:=run59 (xs:=b1) (bs:=b2) hx
 change _=some (AE.ret (.bool (eqBits b1 b2)),[]) at h59
 rw [w17 rfl]
 conv=>lhs;arg 2;whnf
 simp +contextual -implicitDefEqProofs (maxSteps:=9^9) only [↓wkA,↓lv17,↓fz17,↓tbr17,wuH,↓reduceIte,xA,xB,xC,xD,xE,xF,reduceCtorEq,xH,xI,xJ,xK,xL,xM,xN,xO,q0,q1,q2,q3,h59,wbr]
theorem run17a{k1 n1 k2 n2:Int}{b1 b2:LI}{vs1 vs2:List VT}(hx:b1.length<4611686018427387904){p:VT→VT→Bool}(hg:∀ v w,v∈vs1→evW 17 [vA v,vA w] []=oR (.bool (p v w)))(hb:vs1.length<4611686018427387904)(q0:(!(k1==k2))=false)(q1:(!(n1==n2))=false)(q2:(!eqBits b1 b2)=false)(q3:(!(((vs1.length:Nat):Int)==(vs2.length:Nat)))=false):evW 17 [.agg [iA k1,iA n1,bitsA b1,.sl 4 (vs1.map vC)],.agg [iA k2,iA n2,bitsA b2,.sl 4 (vs2.map vC)]] []=oR (.bool (allF p vs1 vs2)):=by
 have h59:=run59 (xs:=b1) (bs:=b2) hx
 change _=some (AE.ret (.bool (eqBits b1 b2)),[]) at h59
 have hl:vs1.length=vs2.length:=by simp at q3;omega
 rw [w17 rfl]
 conv=>lhs;arg 2;whnf
 simp +contextual -implicitDefEqProofs (maxSteps:=9^9) only [↓wkA,↓lv17,↓fz17,↓tbr17,wuH,↓reduceIte,xA,xB,xC,xD,xE,xF,reduceCtorEq,xH,xI,xJ,xK,xL,xM,xN,xO,h59,q0,q1,q2,q3,wbr]
 refine(lpX_code (c':=lp Tryz.f17 0) (by kernel_rfl)).trans ?_
 rw [lq17_0]
 try simp +contextual -implicitDefEqProofs (maxSteps:=9^9) only [↓wkA,↓lv17,↓fz17,↓tbr17,wuH,↓reduceIte,xA,xB,xC,xD,xE,xF,reduceCtorEq,xH,xI,xJ,xK,xL,xM,xN,xO,h59,q0,q1,q2,q3,wbr]
 refine(loop17_0 hg (X:=oR (.bool false)) (Y:=oR (.bool true)) hl hb ?_ ?_ vs1 0 rfl).trans ?_
 ·intro fr hp nx
  simp +contextual -implicitDefEqProofs (maxSteps:=9^9) only [↓wkA,↓lv17,↓fz17,↓tbr17,wuH,↓reduceIte,xA,xB,xC,xD,xE,xF,reduceCtorEq,xH,xI,xJ,xK,xL,xM,xN,xO,wbr]
 ·intro fr hp nx
  simp +contextual -implicitDefEqProofs (maxSteps:=9^9) only [↓wkA,↓lv17,↓fz17,↓tbr17,wuH,↓reduceIte,xA,xB,xC,xD,xE,xF,reduceCtorEq,xH,xI,xJ,xK,xL,xM,xN,xO,wbr]
 rw [List.drop_zero]
 cases allF p vs1 vs2<;>rfl
theorem run17T:∀(v w:VT),vSm v→evW 17 [vA v,vA w] []=oR (.bool (eqV v w))
 | .mk k n bs ls,.mk k2 n2 bs2 ls2,hv=>by
   rw [vSm] at hv
   have hg:∀ v w,v∈ls→evW 17 [vA v,vA w] []=oR (.bool (eqV v w)):=fun v w hm=>run17T v w (hv.2.2.2 v hm)
   have hx:bs.length<4611686018427387904:=by omega
   rw [vA_mk,vA_mk,eqV,eqL_all]
   cases q0:(!(k==k2)) with
   | true=>rw [not_t q0];exact run17x0 hx q0
   | false =>
   cases q1:(!(n==n2)) with
   | true=>rw [not_f q0,not_t q1];exact run17x1 hx q0 q1
   | false =>
   cases q2:(!eqBits bs bs2) with
   | true=>rw [not_f q0,not_f q1,not_t q2];exact run17x2 hx q0 q1 q2
   | false =>
   cases q3:(!(((ls.length:Nat):Int)==(ls2.length:Nat))) with
   | true=>rw [not_f q0,not_f q1,not_f q2,not_t q3];exact run17x3 hx q0 q1 q2 q3
   | false =>
     rw [not_f q0,not_f q1,not_f q2,not_f q3]
     exact run17a hx hg (by omega) q0 q1 q2 q3
mutual
def eqN:VT→VT→Bool
 | .mk _ n bs ls,.mk _ n2 bs2 ls2=>(n==n2)&&(eqBits bs bs2&&((((ls.length:Nat):Int)==(ls2.length:Nat))&&eqNL ls ls2))
def eqNL:List VT→List VT→Bool
 | [],_=>true
 | x::r,y::s=>eqN x y&&eqNL r s
 | _::_,[]=>false
end
theorem eqNL_all:∀(l m:List VT),eqNL l m=allF eqN l m
 | [],_=>by rw [eqNL];rfl
 | x::r,y::s=>by rw [eqNL,eqNL_all r s];rfl
 | _::_,[]=>by rw [eqNL];rfl
theorem loop200_0{vs1 vs2:List VT}{p:VT→VT→Bool}(hg:∀ v w,v∈vs1→evW 105 [vA v,vA w] []=oR (.bool (p v w)))(hl:vs1.length=vs2.length)(hb:vs1.length<4611686018427387904){k:KK}{X Y:OO}(h1:∀ fr hp nx,k .ret ⟨(6,.bool false)::fr,hp,nx,[]⟩=X)(h2:∀ fr hp nx,k (.exit 0) ⟨fr,hp,nx,[]⟩=Y) :
  ∀(rest:List VT)(i:Nat) ,vs1.drop i=rest→lpN ⟨32,0,kpOf 200,noTab⟩ (lp Tryz.f200 0) ⟨[(1,.sl 4 (vs2.map vC)),(2,.fn 105 []),(15,.sl 4 (vs1.map vC)),(16,iA vs1.length),(17,iA i)],[],0,[]⟩ k=br (allF p rest (vs2.drop i)) Y X
 | [],i,hd=>by
   have hi:=drop_ge hd
   unfold lpN
   conv=>lhs;arg 2;whnf
   simp +contextual -implicitDefEqProofs (maxSteps:=9^9) only [↓wkA,↓lv200,↓fz200,wuH,↓reduceIte,xA,xB,xC,xD,xE,xF,reduceCtorEq,xH,xI,xJ,xK,xL,xM,xN,xO,hi,h1,h2,allF,wbr]
 | b::rest,i,hd=>by
   have hi:=drop_lt hd
   have hbi:=drop_at hd
   have hd2:=drop_nx hd
   have hw:IntKind.i64.wrap ((i:Int)+1)=((i+1:Nat):Int):=wrap_succ (by simp at hi;omega)
   obtain⟨c,hc⟩:∃ c,vs2[i]?=some c:=by
    simp at hi
    exact⟨_,List.getElem?_eq_getElem (by omega)⟩
   have hdc:vs2.drop i=c::vs2.drop (i+1):=by
    obtain⟨hlt,e⟩:=List.getElem?_eq_some_iff.1 hc
    rw [List.drop_eq_getElem_cons hlt,e]
   have ih:=loop200_0 hg hl hb h1 h2 rest (i+1) hd2
   have hq:=hg b c (List.mem_of_getElem? hbi)
   obtain⟨kb,nb,bb,lb⟩:=b
   obtain⟨kc,nc,bc,lc⟩:=c
   rw [vA_mk,vA_mk] at hq
   unfold lpN
   conv=>lhs;arg 2;whnf
   simp +contextual -implicitDefEqProofs (maxSteps:=9^9) only [↓wkA,↓lv200,↓fz200,wuH,↓reduceIte,xA,xB,xC,xD,xE,xF,reduceCtorEq,xH,xI,xJ,xK,xL,xM,xN,xO,hi,hw,hbi,map_get,lq200_0,h1,h2,hdc,allF_cons,hc,ih,hq,vC_mk,wbr]
theorem run200{vs1 vs2:List VT}{p:VT→VT→Bool}(hg:∀ v w,v∈vs1→evW 105 [vA v,vA w] []=oR (.bool (p v w)))(hb:vs1.length<4611686018427387904):evW 200 [.sl 4 (vs1.map vC),.sl 4 (vs2.map vC),.fn 105 []] []=oR (.bool ((((vs1.length:Nat):Int)==(vs2.length:Nat))&&allF p vs1 vs2)):=by
 by_cases hl:vs1.length=vs2.length
 ·have hl2:(((vs1.length:Nat):Int)==(vs2.length:Nat))=true:=by simp;omega
  rw [hl2,Bool.true_and]
  rw [w200 rfl]
  conv=>lhs;arg 2;whnf
  simp +contextual -implicitDefEqProofs (maxSteps:=9^9) only [↓wkA,↓lv200,↓fz200,wuH,↓reduceIte,xA,xB,xC,xD,xE,xF,reduceCtorEq,xH,xI,xJ,xK,xL,xM,xN,xO,hl2,wbr]
  refine(lpX_code (c':=lp Tryz.f200 0) (by kernel_rfl)).trans ?_
  rw [lq200_0]
  try simp +contextual -implicitDefEqProofs (maxSteps:=9^9) only [↓wkA,↓lv200,↓fz200,wuH,↓reduceIte,xA,xB,xC,xD,xE,xF,reduceCtorEq,xH,xI,xJ,xK,xL,xM,xN,xO,hl2,wbr]
  refine(loop200_0 hg (X:=oR (.bool false)) (Y:=oR (.bool true)) hl hb ?_ ?_ vs1 0 rfl).trans ?_
  ·intro fr hp nx
   simp +contextual -implicitDefEqProofs (maxSteps:=9^9) only [↓wkA,↓lv200,↓fz200,wuH,↓reduceIte,xA,xB,xC,xD,xE,xF,reduceCtorEq,xH,xI,xJ,xK,xL,xM,xN,xO,wbr]
  ·intro fr hp nx
   simp +contextual -implicitDefEqProofs (maxSteps:=9^9) only [↓wkA,↓lv200,↓fz200,wuH,↓reduceIte,xA,xB,xC,xD,xE,xF,reduceCtorEq,xH,xI,xJ,xK,xL,xM,xN,xO,wbr]
  ·rw [List.drop_zero]
   cases allF p vs1 vs2<;>rfl
 ·have hl2:(((vs1.length:Nat):Int)==(vs2.length:Nat))=false:=by simp;omega
  rw [hl2,Bool.false_and]
  rw [w200 rfl]
  conv=>lhs;arg 2;whnf
  simp +contextual -implicitDefEqProofs (maxSteps:=9^9) only [↓wkA,↓lv200,↓fz200,wuH,↓reduceIte,xA,xB,xC,xD,xE,xF,reduceCtorEq,xH,xI,xJ,xK,xL,xM,xN,xO,hl2,wbr]
theorem run105x0{k1 n1 k2 n2:Int}{b1 b2:LI}{vs1 vs2:List VT}{c:Bool}(hx:b1.length<4611686018427387904)(hL:evW 200 [.sl 4 (vs1.map vC),.sl 4 (vs2.map vC),.fn 105 []] []=oR (.bool c))(q0:(n1==n2)=false):evW 105 [.agg [iA k1,iA n1,bitsA b1,.sl 4 (vs1.map vC)],.agg [iA k2,iA n2,bitsA b2,.sl 4 (vs2.map vC)]] []=oR (.bool false):=by
 have h199:=run199 (xs:=b1) (bs:=b2) hx
 change _=some (AE.ret (.bool (eqBits b1 b2)),[]) at h199
 rw [w105 rfl]
 conv=>lhs;arg 2;whnf
 simp +contextual -implicitDefEqProofs (maxSteps:=9^9) only [↓wkA,↓lv105,↓fz105,wuH,↓reduceIte,xA,xB,xC,xD,xE,xF,reduceCtorEq,xH,xI,xJ,xK,xL,xM,xN,xO,q0,h199,hL,wbr]
theorem run105x1{k1 n1 k2 n2:Int}{b1 b2:LI}{vs1 vs2:List VT}{c:Bool}(hx:b1.length<4611686018427387904)(hL:evW 200 [.sl 4 (vs1.map vC),.sl 4 (vs2.map vC),.fn 105 []] []=oR (.bool c))(q0:(n1==n2)=true)(q1:eqBits b1 b2=false):evW 105 [.agg [iA k1,iA n1,bitsA b1,.sl 4 (vs1.map vC)],.agg [iA k2,iA n2,bitsA b2,.sl 4 (vs2.map vC)]] []=oR (.bool false):=by
 have h199:=run199 (xs:=b1) (bs:=b2) hx
 change _=some (AE.ret (.bool (eqBits b1 b2)),[]) at h199
 rw [w105 rfl]
 conv=>lhs;arg 2;whnf
 simp +contextual -implicitDefEqProofs (maxSteps:=9^9) only [↓wkA,↓lv105,↓fz105,wuH,↓reduceIte,xA,xB,xC,xD,xE,xF,reduceCtorEq,xH,xI,xJ,xK,xL,xM,xN,xO,q0,q1,h199,hL,wbr]
theorem run105xa{k1 n1 k2 n2:Int}{b1 b2:LI}{vs1 vs2:List VT}{c:Bool}(hx:b1.length<4611686018427387904)(hL:evW 200 [.sl 4 (vs1.map vC),.sl 4 (vs2.map vC),.fn 105 []] []=oR (.bool c))(q0:(n1==n2)=true)(q1:eqBits b1 b2=true):evW 105 [.agg [iA k1,iA n1,bitsA b1,.sl 4 (vs1.map vC)],.agg [iA k2,iA n2,bitsA b2,.sl 4 (vs2.map vC)]] []=oR (.bool c):=by
 have h199:=run199 (xs:=b1) (bs:=b2) hx
 change _=some (AE.ret (.bool (eqBits b1 b2)),[]) at h199
 rw [w105 rfl]
 conv=>lhs;arg 2;whnf
 simp +contextual -implicitDefEqProofs (maxSteps:=9^9) only [↓wkA,↓lv105,↓fz105,wuH,↓reduceIte,xA,xB,xC,xD,xE,xF,reduceCtorEq,xH,xI,xJ,xK,xL,xM,xN,xO,q0,q1,h199,hL,wbr]
theorem run105T:∀(v w:VT),vSm v→evW 105 [vA v,vA w] []=oR (.bool (eqN v w))
 | .mk k n bs ls,.mk k2 n2 bs2 ls2,hv=>by
   rw [vSm] at hv
   have hL:=run200 (vs1:=ls) (vs2:=ls2) (p:=eqN) (fun v w hm=>run105T v w (hv.2.2.2 v hm)) (by omega)
   have hx:bs.length<4611686018427387904:=by omega
   rw [vA_mk,vA_mk,eqN,eqNL_all]
   cases q0:(n==n2) with
   | false=>exact run105x0 hx hL q0
   | true =>
   cases q1:eqBits bs bs2 with
   | false=>exact run105x1 hx hL q0 q1
   | true=>exact run105xa hx hL q0 q1
theorem hasT_kind{t:TT}{k n k2 n2:Int}{bs bs2:LI}{ls ls2:List VT}(h:hasT t (.mk k n bs ls)=true)(h2:hasT t (.mk k2 n2 bs2 ls2)=true):k=k2:=by
 obtain⟨kt,l,s,L,es⟩:=t
 match es with
 | []=>rw [hasT_nil,Bool.and_eq_true] at h h2;exact(eq_of_beq h.1).trans (eq_of_beq h2.1).symm
 | [e]=>rw [hasT,Bool.and_eq_true] at h h2;exact(eq_of_beq h.1).trans (eq_of_beq h2.1).symm
 | a::b::r =>
   rw [hasT,Bool.and_eq_true] at h h2
   ·exact(eq_of_beq h.1).trans (eq_of_beq h2.1).symm
   all_goals (intro e h;cases h)
end Go.Proofs.YtdhcgankmhpgeaaGreat.M
