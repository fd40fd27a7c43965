import Derived.Test.YtdhcgankmhpgeaaGreatB20
set_option linter.all false
namespace Go.Proofs.YtdhcgankmhpgeaaGreat.M
open Go
open Nat renaming reduceEqDiff → xA, reduceLT → xB, reduceAdd → xC, reduceMul → xD, reduceSub → xE, reduceDiv → xF, reduceLeDiff → xN
open Int renaming reduceAdd → xH, reduceLE → xI, reduceLT → xJ, reduceToNat → xK, reduceEq → xL, reduceBEq → xM
open UInt8 renaming reduceToNat → xO
set_option maxRecDepth 100000
set_option maxHeartbeats 4000000
attribute [local congr] br_congr ob2_congr cnd_congr gdK_congr ob_congr clK_congr finK_congr reg_congr pkK_congr kTK_congr dlT_congr gck_congr iff2_congr sel_congr dPn_congr apJ_congr nmK_congr kTo_congr fzO_congr rcK_congr lvB_congr crK_congr cdB_congr
def fillC(g:Nat→Option Int):Nat→Nat→LI→LI
 | 0,_,xs=>xs
 | r+1,i,xs=>fillC g r (i+1) (match g i with
   | some v=>xs.set i v
   | none=>xs)
theorem fillC_some{g:Nat→Option Int}{r i:Nat}{xs:LI}{v:Int}(h:g i=some v):fillC g (r+1) i xs=fillC g r (i+1) (xs.set i v):=by rw [fillC,h]
theorem fillC_none{g:Nat→Option Int}{r i:Nat}{xs:LI}(h:g i=none):fillC g (r+1) i xs=fillC g r (i+1) xs:=by rw [fillC,h]
theorem fillC_len{g:Nat→Option Int}:∀(r i:Nat)(xs:LI),(fillC g r i xs).length=xs.length
 | 0,_,_=>rfl
 | r+1,i,xs=>by
   rw [fillC,fillC_len r]
   split
   ·rw [List.length_set]
   ·rfl
theorem fillC_get{g:Nat→Option Int}:∀(r i:Nat)(xs:LI)(j:Nat),(fillC g r i xs)[j]?=if i≤j∧j<i+r then (match g j with
  | some v=>if j<xs.length then some v else none
  | none=>xs[j]?) else xs[j]?
 | 0,i,xs,j=>by
   rw [fillC,if_neg (by omega)]
 | r+1,i,xs,j=>by
   rw [fillC,fillC_get r (i+1)]
   by_cases h:i=j
   ·subst h
    rw [if_neg (by omega),if_pos (by omega)]
    cases hg:g i with
    | none=>rfl
    | some v=>simp [List.getElem?_set]
   ·by_cases h2:i+1≤j∧j<i+1+r
    ·rw [if_pos h2,if_pos (by omega)]
     cases hg:g i with
     | none=>rfl
     | some v =>
       simp only
       rw [List.length_set,List.getElem?_set_ne h]
    ·rw [if_neg h2,if_neg (by omega)]
     cases hg:g i with
     | none=>rfl
     | some v =>
       simp only
       rw [List.getElem?_set_ne h]
def tabL(n:Nat)(g:Nat→Option Int):LI:=(List.range n).map fun i=>(g i).getD 0
theorem fillC_tab{g:Nat→Option Int}{n:Nat}:fillC g n 0 (List.replicate n 0)=tabL n g:=by
 apply List.ext_getElem?
 intro j
 rw [fillC_get]
 unfold tabL
 by_cases h:j<n
 ·rw [if_pos (by omega)]
  cases hg:g j<;>simp [h,hg]
 ·rw [if_neg (by omega)]
  simp [h]
def gM(v:LI)(z:Int)(i:Nat):Option Int:=if 0≤(i:Int)-z then v[((i:Int)-z).toNat]? else none
theorem loop304_0{v:LI}{by_:Int}(hby : -1000≤by_∧by_≤1000)(hv:v.length<100000){n:Nat}(hb:n<4611686018427387904){k:KK}{X:LI→OO}
  (h2:∀(xs:LI) fr nx,xs.length=n→look 5 fr=some (.row 0 0 n)→k (.exit 0) ⟨fr,[(0,.arr 162 1 (xs.map fun b=>[.int .u8 b]))],nx,[]⟩=X xs) :
  ∀(r i:Nat)(xs:LI),i+r=n→xs.length=n→lpN ⟨36,0,kpOf 304,noTab⟩ (lp Tryz.f304 0) ⟨[(0,bitsA v),(1,iA by_),(5,.row 0 0 n),(12,iA n),(13,iA i)],[(0,.arr 162 1 (xs.map fun b=>[.int .u8 b]))],1,[]⟩ k=X (fillC (gM v by_) r i xs)
 | 0,i,xs,hr,hx=>by
   have hi:decide ((i:Int)<(n:Nat))=false:=by simp;omega
   have h3:=fun fr nx=>h2 xs fr nx hx
   unfold lpN
   conv=>lhs;arg 2;whnf
   simp +contextual -implicitDefEqProofs (maxSteps:=9^9) only [↓wkA,↓lv304,↓fz304,wuH,↓reduceIte,xA,xB,xC,xD,xE,xF,reduceCtorEq,xH,xI,xJ,xK,xL,xM,xN,xO,hi,h3,fillC,wbr]
 | r+1,i,xs,hr,hx=>by
   have hi:decide ((i:Int)<(n:Nat))=true:=by simp;omega
   have hi3:i<n:=by omega
   have hi4:n≤xs.length:=by omega
   obtain⟨c,hc⟩:∃ c,xs[i]?=some c:=⟨_,List.getElem?_eq_getElem (by omega)⟩
   have hw:IntKind.i64.wrap ((i:Int)+1)=((i+1:Nat):Int):=wrap_succ (by omega)
   have hk:IntKind.i64.wrap ((i:Int)-by_)=(i:Int)-by_:=wrap_i64 (by omega) (by omega)
   cases ha:decide ((0:Int)≤(i:Int)-by_) with
   | false =>
     have hg:gM v by_ i=none:=if_neg (of_decide_eq_false ha)
     rw [fillC_none hg]
     have ih:=loop304_0 (v:=v) (by_:=by_) hby hv hb h2 r (i+1) xs (by omega) hx
     unfold lpN
     conv=>lhs;arg 2;whnf
     simp +contextual -implicitDefEqProofs (maxSteps:=9^9) only [↓wkA,↓lv304,↓fz304,wuH,↓reduceIte,xA,xB,xC,xD,xE,xF,reduceCtorEq,xH,xI,xJ,xK,xL,xM,xN,xO,hi,hi3,hi4,hw,hc,bitsA_get,ih,lq304_0,decide_eq_true_eq,hk,ha,wbr]
   | true =>
     have ha':=of_decide_eq_true ha
     cases hd:decide ((i:Int)-by_<(v.length:Nat)) with
     | false =>
       have hg:gM v by_ i=none:=by
        unfold gM
        rw [if_pos ha',List.getElem?_eq_none (by have:=of_decide_eq_false hd;omega)]
       rw [fillC_none hg]
       have ih:=loop304_0 (v:=v) (by_:=by_) hby hv hb h2 r (i+1) xs (by omega) hx
       unfold lpN
       conv=>lhs;arg 2;whnf
       simp +contextual -implicitDefEqProofs (maxSteps:=9^9) only [↓wkA,↓lv304,↓fz304,wuH,↓reduceIte,xA,xB,xC,xD,xE,xF,reduceCtorEq,xH,xI,xJ,xK,xL,xM,xN,xO,hi,hi3,hi4,hw,hc,bitsA_get,ih,lq304_0,decide_eq_true_eq,hk,ha,hd,wbr]
     | true =>
       have hd':=of_decide_eq_true hd
       obtain⟨m,hm⟩:∃ m:Nat,(i:Int)-by_=m:=⟨((i:Int)-by_).toNat,by omega⟩
       obtain⟨e,he⟩:∃ e,v[m]?=some e:=⟨_,List.getElem?_eq_getElem (by omega)⟩
       have hg:gM v by_ i=some e:=by
        unfold gM
        rw [if_pos ha',hm]
        simpa using he
       rw [fillC_some hg]
       have hkm:IntKind.i64.wrap ((i:Int)-by_)=(m:Int):=hk.trans hm
       have hd3:decide ((m:Int)<(v.length:Nat))=true:=by rw [← hm];exact hd
       have ih:=loop304_0 (v:=v) (by_:=by_) hby hv hb h2 r (i+1) (xs.set i e) (by omega) (by rw [List.length_set];exact hx)
       simp only [bitsA] at ih
       unfold lpN
       conv=>lhs;arg 2;whnf
       simp +contextual -implicitDefEqProofs (maxSteps:=9^9) only [↓wkA,↓lv304,↓fz304,wuH,↓reduceIte,xA,xB,xC,xD,xE,xF,reduceCtorEq,xH,xI,xJ,xK,xL,xM,xN,xO,hi,hi3,hi4,hw,hc,bitsA_get,ih,lq304_0,decide_eq_true_eq,hkm,hd3,he,bitsA,wbr]
theorem run304{v:LI}{by_:Int}(hby : -1000≤by_∧by_≤1000)(hv:v.length<100000):evW 304 [bitsA v,iA by_] []=oR (bitsA (tabL v.length (gM v by_))):=by
 have hm:decide ((0:Int)≤(v.length:Nat)∧((v.length:Nat):Int)≤1000000)=true:=by simp;omega
 rw [← fillC_tab]
 rw [w304 rfl]
 conv=>lhs;arg 2;whnf
 simp +contextual -implicitDefEqProofs (maxSteps:=9^9) only [↓wkA,↓lv304,↓fz304,wuH,↓reduceIte,xA,xB,xC,xD,xE,xF,reduceCtorEq,xH,xI,xJ,xK,xL,xM,xN,xO,hm,rep8,bitsA,wbr]
 refine(lpX_code (c':=lp Tryz.f304 0) (by kernel_rfl)).trans ?_
 rw [lq304_0]
 try simp +contextual -implicitDefEqProofs (maxSteps:=9^9) only [↓wkA,↓lv304,↓fz304,wuH,↓reduceIte,xA,xB,xC,xD,xE,xF,reduceCtorEq,xH,xI,xJ,xK,xL,xM,xN,xO,hm,rep8,wbr]
 refine(loop304_0 (v:=v) (by_:=by_) (n:=v.length) hby hv (X:=fun xs=>oR (bitsA xs)) (by omega) ?_ v.length 0 (List.replicate (v.length) 0) (by omega) (by simp)).trans ?_
 ·intro xs fr nx hx hl
  have hd:decide ((v.length)≤xs.length)=true:=by simp;omega
  have htk:List.take (v.length) (xs.map fun b=>[AV.int .u8 b])=xs.map fun b=>[AV.int .u8 b]:=List.take_of_length_le (by rw [List.length_map];omega)
  simp +contextual -implicitDefEqProofs (maxSteps:=9^9) only [↓wkA,↓lv304,↓fz304,wuH,↓reduceIte,xA,xB,xC,xD,xE,xF,reduceCtorEq,xH,xI,xJ,xK,xL,xM,xN,xO,hl,hd,htk,bitsA,wbr]
 ·rfl
theorem take1{α:Type}{x:α}:List.take 1 [x]=[x]:=rfl
theorem keysE_app:∀{a b:LA},keysE (a++b)=keysE a++keysE b
 | [],_=>rfl
 | x::a,b=>by rw [List.cons_append,kE_cons,kE_cons,keysE_app,List.append_assoc]
theorem loop253{b:Int}{n:Nat}(hb:n≤100000){k:KK}{X:LI→OO}
  (h2:∀(xs:LI) fr nx,xs.length=n→1≤n→look 5 fr=some (.row 0 0 n)→k (.exit 0) ⟨fr,[(0,.arr 162 1 (xs.map fun b=>[.int .u8 b]))],nx,[]⟩=X xs) :
  ∀(r i:Nat)(xs:LI),i+r=n→xs.length=i→1≤i→lpN ⟨15,0,kpOf 253,noTab⟩ (lp Tryz.f253 0) ⟨[(0,.int .u8 b),(5,.row 0 0 i),(6,iA n),(7,iA i)],[(0,.arr 162 1 (xs.map fun b=>[.int .u8 b]))],1,[]⟩ k=X (xs++List.replicate r b)
 | 0,i,xs,hr,hx,h1=>by
   have hi:decide ((i:Int)<(n:Nat))=false:=by simp;omega
   have he:i=n:=by omega
   subst he
   have h3:=fun fr nx=>h2 xs fr nx hx h1
   rw [List.replicate_zero,List.append_nil]
   unfold lpN
   conv=>lhs;arg 2;whnf
   simp +contextual -implicitDefEqProofs (maxSteps:=9^9) only [↓wkA,↓lv253,↓fz253,wuH,↓reduceIte,xA,xB,xC,xD,xE,xF,reduceCtorEq,xH,xI,xJ,xK,xL,xM,xN,xO,hi,h3,wbr]
 | r+1,i,xs,hr,hx,h1=>by
   have hi:decide ((i:Int)<(n:Nat))=true:=by simp;omega
   have hw:IntKind.i64.wrap ((i:Int)+1)=((i+1:Nat):Int):=wrap_succ (by omega)
   have hlx:(xs.map fun b=>[AV.int .u8 b]).length=i:=by rw [List.length_map];exact hx
   have htk:List.take i (xs.map fun b=>[AV.int .u8 b])=xs.map fun b=>[AV.int .u8 b]:=List.take_of_length_le (by omega)
   have ih:=loop253 (b:=b) hb h2 r (i+1) (xs++[b]) (by omega) (by simp;omega) (by omega)
   rw [List.map_append,List.append_assoc] at ih
   simp only [List.map_cons,List.map_nil] at ih
   have hms:decide (i+1≤most)=true:=by unfold most;simp;omega
   unfold lpN
   conv=>lhs;arg 2;whnf
   simp +contextual -implicitDefEqProofs (maxSteps:=9^9) only [↓wkA,↓lv253,↓fz253,wuH,↓reduceIte,xA,xB,xC,xD,xE,xF,reduceCtorEq,xH,xI,xJ,xK,xL,xM,xN,xO,hi,hw,hlx,htk,hms,ih,lq253_0,List.set_cons_zero,take1,keysE_app,wbr]
theorem first253{b:Int}{n:Nat}(h1:1≤n)(hb:n≤100000){k:KK}:lpN ⟨15,0,kpOf 253,noTab⟩ (lp Tryz.f253 0) ⟨[(0,.int .u8 b),(5,.nils),(6,iA n),(7,iA 0)],[],0,[]⟩ k=lpN ⟨15,0,kpOf 253,noTab⟩ (lp Tryz.f253 0) ⟨[(0,.int .u8 b),(5,.row 0 0 1),(6,iA n),(7,iA 1)],[(0,.arr 162 1 [[.int .u8 b]])],1,[]⟩ k:=by
 have hi:decide ((0:Int)<(n:Nat))=true:=by simp;omega
 have hms:decide (1≤most)=true:=by decide
 have hw1:IntKind.i64.wrap ((0:Int)+1)=1:=by decide
 conv=>lhs;unfold lpN;arg 2;whnf
 conv =>
  lhs
  simp +contextual -implicitDefEqProofs (maxSteps:=9^9) only [↓wkA,↓lv253,↓fz253,wuH,↓reduceIte,xA,xB,xC,xD,xE,xF,reduceCtorEq,xH,xI,xJ,xK,xL,xM,xN,xO,hi,hw1,hms,lq253_0,List.set_cons_zero,take1,keysE_app,wbr]
theorem run253{b:Int}{n:Nat}(h1:1≤n)(hb:n≤100000):evW 253 [.int .u8 b,iA n] []=some (.ret (.row 0 0 n),[.arr 162 1 ((List.replicate n b).map fun b=>[.int .u8 b])]):=by
 rw [w253 rfl]
 conv=>lhs;arg 2;whnf
 simp +contextual -implicitDefEqProofs (maxSteps:=9^9) only [↓wkA,↓lv253,↓fz253,wuH,↓reduceIte,xA,xB,xC,xD,xE,xF,reduceCtorEq,xH,xI,xJ,xK,xL,xM,xN,xO,wbr]
 refine(lpX_code (c':=lp Tryz.f253 0) (by kernel_rfl)).trans ?_
 rw [lq253_0]
 try simp +contextual -implicitDefEqProofs (maxSteps:=9^9) only [↓wkA,↓lv253,↓fz253,wuH,↓reduceIte,xA,xB,xC,xD,xE,xF,reduceCtorEq,xH,xI,xJ,xK,xL,xM,xN,xO,wbr]
 refine(first253 h1 hb).trans ?_
 refine(loop253 (n:=n) (X:=fun xs=>some (.ret (.row 0 0 n),[.arr 162 1 (xs.map fun b=>[.int .u8 b])])) hb ?_ (n-1) 1 [b] (by omega) rfl (Nat.le_refl _)).trans ?_
 ·intro xs fr nx hx _ hl
  have hd:decide (n≤xs.length)=true:=by simp;omega
  have htk:List.take n (xs.map fun b=>[AV.int .u8 b])=xs.map fun b=>[AV.int .u8 b]:=List.take_of_length_le (by rw [List.length_map];omega)
  simp +contextual -implicitDefEqProofs (maxSteps:=9^9) only [↓wkA,↓lv253,↓fz253,wuH,↓reduceIte,xA,xB,xC,xD,xE,xF,reduceCtorEq,xH,xI,xJ,xK,xL,xM,xN,xO,hl,hd,htk,wbr]
 ·obtain⟨m,rfl⟩:∃ m,n=m+1:=⟨n-1,by omega⟩
  rfl
theorem isP_lt{v:LI}(h:isP v=true):v.length<4611686018427387904:=by
 have:=isP_len h
 omega
theorem run241e{v:LI}(hp:isP v=true){k:Int}(hk:decide (k<0)=true):evW 241 [bitsA v,iA k] []=oR (.tup [.sl 1 [],iA 19]):=by
 have h188:=run188 (isP_lt hp)
 rw [hp] at h188
 rw [w241 rfl]
 conv=>lhs;arg 2;whnf
 simp +contextual -implicitDefEqProofs (maxSteps:=9^9) only [↓wkA,↓lv241,↓fz241,wuH,↓reduceIte,xA,xB,xC,xD,xE,xF,reduceCtorEq,xH,xI,xJ,xK,xL,xM,xN,xO,h188,hk,wbr]
theorem run241{v:LI}(hp:isP v=true){k:Int}(hk:decide (k<0)=false):evW 241 [bitsA v,iA k] []=oR (.tup [bitsA (tabL v.length (gM v (if 64<k then 64 else k))),okE]):=by
 have h188:=run188 (isP_lt hp)
 rw [hp] at h188
 have h304:=run304 (v:=v) (by_:=(if 64<k then 64 else k)) (by have:=of_decide_eq_false hk;constructor<;>split<;>omega) (by have:=isP_len hp;omega)
 rw [w241 rfl]
 conv=>lhs;arg 2;whnf
 simp +contextual -implicitDefEqProofs (maxSteps:=9^9) only [↓wkA,↓lv241,↓fz241,wuH,↓reduceIte,xA,xB,xC,xD,xE,xF,reduceCtorEq,xH,xI,xJ,xK,xL,xM,xN,xO,h188,hk,h304,mmF2,wbr]
theorem run242e{v:LI}(hp:isP v=true){k:Int}(hk:decide (k<0)=true):evW 242 [bitsA v,iA k] []=oR (.tup [.sl 1 [],iA 19]):=by
 have h188:=run188 (isP_lt hp)
 rw [hp] at h188
 rw [w242 rfl]
 conv=>lhs;arg 2;whnf
 simp +contextual -implicitDefEqProofs (maxSteps:=9^9) only [↓wkA,↓lv242,↓fz242,wuH,↓reduceIte,xA,xB,xC,xD,xE,xF,reduceCtorEq,xH,xI,xJ,xK,xL,xM,xN,xO,h188,hk,wbr]
theorem run242{v:LI}(hp:isP v=true){k:Int}(hk:decide (k<0)=false):evW 242 [bitsA v,iA k] []=oR (.tup [bitsA (tabL v.length (gM v (-(if 64<k then 64 else k)))),okE]):=by
 have h188:=run188 (isP_lt hp)
 rw [hp] at h188
 have hr : -1000≤(-(if 64<k then 64 else k):Int)∧(-(if 64<k then 64 else k):Int)≤1000:=by have:=of_decide_eq_false hk;constructor<;>split<;>omega
 have h304:=run304 (v:=v) (by_ := -(if 64<k then 64 else k)) hr (by have:=isP_len hp;omega)
 have hng:IntKind.i64.wrap (0-(if 64<k then 64 else k)) = -(if 64<k then 64 else k):=by rw [Int.zero_sub];exact wrap_i64 (by omega) (by omega)
 rw [w242 rfl]
 conv=>lhs;arg 2;whnf
 simp +contextual -implicitDefEqProofs (maxSteps:=9^9) only [↓wkA,↓lv242,↓fz242,wuH,↓reduceIte,xA,xB,xC,xD,xE,xF,reduceCtorEq,xH,xI,xJ,xK,xL,xM,xN,xO,h188,hk,h304,mmF2,hng,wbr]
theorem run297{n:Int}:evW 297 [iA n] []=oR (.bool (decide (1≤n)&&decide (n≤64))):=by
 rw [w297 rfl]
 conv=>lhs;arg 2;whnf
 simp +contextual -implicitDefEqProofs (maxSteps:=9^9) only [↓wkA,↓lv297,↓fz297,wuH,↓reduceIte,xA,xB,xC,xD,xE,xF,reduceCtorEq,xH,xI,xJ,xK,xL,xM,xN,xO,wbr]
theorem run233e{k n:Int}(hn:(decide (1≤n)&&decide (n≤64))=false):evW 233 [iA k,iA n] []=oR (.tup [.sl 1 [],iA 19]):=by
 have h297:=run297 (n:=n)
 rw [hn] at h297
 rw [w233 rfl]
 conv=>lhs;arg 2;whnf
 simp +contextual -implicitDefEqProofs (maxSteps:=9^9) only [↓wkA,↓lv233,↓fz233,wuH,↓reduceIte,xA,xB,xC,xD,xE,xF,reduceCtorEq,xH,xI,xJ,xK,xL,xM,xN,xO,h297,wbr]
theorem run233{k:Int}{n:Nat}(h1:1≤n)(h2:n≤64):evW 233 [iA k,iA n] []=oR (.tup [bitsA (ofL (IntKind.u64.wrap k) n 0 (List.replicate n 0)),okE]):=by
 have h297:=run297 (n:=n)
 rw [show (decide ((1:Int)≤(n:Nat))&&decide (((n:Nat):Int)≤64))=true by simp;omega] at h297
 have h197:=run197 (k0:=IntKind.u64.wrap k) (n:=n) (by omega)
 rw [w233 rfl]
 conv=>lhs;arg 2;whnf
 simp +contextual -implicitDefEqProofs (maxSteps:=9^9) only [↓wkA,↓lv233,↓fz233,wuH,↓reduceIte,xA,xB,xC,xD,xE,xF,reduceCtorEq,xH,xI,xJ,xK,xL,xM,xN,xO,h297,h197,wbr]
def gRL(v:LI)(z:Int)(i:Nat):Option Int:=if z≤(i:Int) then v[((i:Int)-z).toNat]? else none
def gRR(v:LI)(z:Int)(i:Nat):Option Int:=if z<(v.length:Int)-i then v[((i:Int)+z).toNat]? else none
def gRS(v:LI)(i:Nat):Option Int:=v[i]?
theorem loop170_0{n:Nat}(hb:n<100000){v:LI}{by_:Int}(hby:0≤by_∧by_≤2147483647)(hv:v.length=n){k:KK}{X:LI→OO}
  (h2:∀(xs:LI) fr nx,xs.length=n→look 6 fr=some (.row 0 0 n)→k (.exit 1) ⟨fr,[(0,.arr 162 1 (xs.map fun b=>[.int .u8 b]))],nx,[]⟩=X xs) :
  ∀(r i:Nat)(xs:LI),i+r=n→xs.length=n→lpN ⟨37,0,kpOf 170,noTab⟩ (lp Tryz.f170 0) ⟨[(0,bitsA v),(1,iA by_),(6,.row 0 0 n),(19,iA n),(20,iA i)],[(0,.arr 162 1 (xs.map fun b=>[.int .u8 b]))],1,[]⟩ k=X (fillC (gRL v by_) r i xs)
 | 0,i,xs,hr,hx=>by
   have hi:decide ((i:Int)<(n:Nat))=false:=by simp;omega
   have h3:=fun fr nx=>h2 xs fr nx hx
   unfold lpN
   conv=>lhs;arg 2;whnf
   simp +contextual -implicitDefEqProofs (maxSteps:=9^9) only [↓wkA,↓lv170,↓fz170,wuH,↓reduceIte,xA,xB,xC,xD,xE,xF,reduceCtorEq,xH,xI,xJ,xK,xL,xM,xN,xO,hi,h3,fillC,wbr]
 | r+1,i,xs,hr,hx=>by
   have hi:decide ((i:Int)<(n:Nat))=true:=by simp;omega
   have hi3:i<n:=by omega
   have hi4:n≤xs.length:=by omega
   obtain⟨c,hc⟩:∃ c,xs[i]?=some c:=⟨_,List.getElem?_eq_getElem (by omega)⟩
   have hw:IntKind.i64.wrap ((i:Int)+1)=((i+1:Nat):Int):=wrap_succ (by omega)
   have hk:IntKind.i64.wrap ((i:Int)-by_)=(i:Int)-by_:=wrap_i64 (by omega) (by omega)
   cases ha:decide (by_≤(i:Int)) with
   | false =>
     have hg:gRL v by_ i=none:=if_neg (of_decide_eq_false ha)
     rw [fillC_none hg]
     have ih:=loop170_0 hb (v:=v) (by_:=by_) hby hv h2 r (i+1) xs (by omega) hx
     unfold lpN
     conv=>lhs;arg 2;whnf
     simp +contextual -implicitDefEqProofs (maxSteps:=9^9) only [↓wkA,↓lv170,↓fz170,wuH,↓reduceIte,xA,xB,xC,xD,xE,xF,reduceCtorEq,xH,xI,xJ,xK,xL,xM,xN,xO,hi,hi3,hi4,hw,hc,bitsA_get,ih,lq170_0,decide_eq_true_eq,ha,wbr]
   | true =>
     have ha':=of_decide_eq_true ha
     obtain⟨m,hm⟩:∃ m:Nat,(i:Int)-by_=m:=⟨((i:Int)-by_).toNat,by omega⟩
     obtain⟨e,he⟩:∃ e,v[m]?=some e:=⟨_,List.getElem?_eq_getElem (by omega)⟩
     have hg:gRL v by_ i=some e:=by
      unfold gRL
      rw [if_pos ha',hm]
      simpa using he
     rw [fillC_some hg]
     have hkm:IntKind.i64.wrap ((i:Int)-by_)=(m:Int):=hk.trans hm
     have ih:=loop170_0 hb (v:=v) (by_:=by_) hby hv h2 r (i+1) (xs.set i e) (by omega) (by rw [List.length_set];exact hx)
     simp only [bitsA] at ih
     unfold lpN
     conv=>lhs;arg 2;whnf
     simp +contextual -implicitDefEqProofs (maxSteps:=9^9) only [↓wkA,↓lv170,↓fz170,wuH,↓reduceIte,xA,xB,xC,xD,xE,xF,reduceCtorEq,xH,xI,xJ,xK,xL,xM,xN,xO,hi,hi3,hi4,hw,hc,bitsA_get,ih,lq170_0,decide_eq_true_eq,hkm,ha,he,bitsA,wbr]
theorem loop171_0{n:Nat}(hb:n<100000){v:LI}{by_:Int}(hby:0≤by_∧by_≤2147483647)(hv:v.length=n){k:KK}{X:LI→OO}
  (h2:∀(xs:LI) fr nx,xs.length=n→look 6 fr=some (.row 0 0 n)→k (.exit 1) ⟨fr,[(0,.arr 162 1 (xs.map fun b=>[.int .u8 b]))],nx,[]⟩=X xs) :
  ∀(r i:Nat)(xs:LI),i+r=n→xs.length=n→lpN ⟨40,0,kpOf 171,noTab⟩ (lp Tryz.f171 0) ⟨[(0,bitsA v),(1,iA by_),(6,.row 0 0 n),(19,iA n),(20,iA i)],[(0,.arr 162 1 (xs.map fun b=>[.int .u8 b]))],1,[]⟩ k=X (fillC (gRR v by_) r i xs)
 | 0,i,xs,hr,hx=>by
   have hi:decide ((i:Int)<(n:Nat))=false:=by simp;omega
   have h3:=fun fr nx=>h2 xs fr nx hx
   unfold lpN
   conv=>lhs;arg 2;whnf
   simp +contextual -implicitDefEqProofs (maxSteps:=9^9) only [↓wkA,↓lv171,↓fz171,wuH,↓reduceIte,xA,xB,xC,xD,xE,xF,reduceCtorEq,xH,xI,xJ,xK,xL,xM,xN,xO,hi,h3,fillC,wbr]
 | r+1,i,xs,hr,hx=>by
   have hi:decide ((i:Int)<(n:Nat))=true:=by simp;omega
   have hi3:i<n:=by omega
   have hi4:n≤xs.length:=by omega
   obtain⟨c,hc⟩:∃ c,xs[i]?=some c:=⟨_,List.getElem?_eq_getElem (by omega)⟩
   have hw:IntKind.i64.wrap ((i:Int)+1)=((i+1:Nat):Int):=wrap_succ (by omega)
   have hk1:IntKind.i64.wrap ((v.length:Int)-(i:Int))=(v.length:Int)-(i:Int):=wrap_i64 (by omega) (by omega)
   have hk2:IntKind.i64.wrap ((i:Int)+by_)=(i:Int)+by_:=wrap_i64 (by omega) (by omega)
   cases ha:decide (by_<(v.length:Int)-(i:Int)) with
   | false =>
     have hg:gRR v by_ i=none:=if_neg (of_decide_eq_false ha)
     rw [fillC_none hg]
     have ih:=loop171_0 hb (v:=v) (by_:=by_) hby hv h2 r (i+1) xs (by omega) hx
     unfold lpN
     conv=>lhs;arg 2;whnf
     simp +contextual -implicitDefEqProofs (maxSteps:=9^9) only [↓wkA,↓lv171,↓fz171,wuH,↓reduceIte,xA,xB,xC,xD,xE,xF,reduceCtorEq,xH,xI,xJ,xK,xL,xM,xN,xO,hi,hi3,hi4,hw,hc,bitsA_get,ih,lq171_0,decide_eq_true_eq,hk1,ha,wbr]
   | true =>
     have ha':=of_decide_eq_true ha
     obtain⟨m,hm⟩:∃ m:Nat,(i:Int)+by_=m:=⟨((i:Int)+by_).toNat,by omega⟩
     obtain⟨e,he⟩:∃ e,v[m]?=some e:=⟨_,List.getElem?_eq_getElem (by omega)⟩
     have hg:gRR v by_ i=some e:=by
      unfold gRR
      rw [if_pos ha',hm]
      simpa using he
     rw [fillC_some hg]
     have hkm:IntKind.i64.wrap ((i:Int)+by_)=(m:Int):=hk2.trans hm
     have ih:=loop171_0 hb (v:=v) (by_:=by_) hby hv h2 r (i+1) (xs.set i e) (by omega) (by rw [List.length_set];exact hx)
     simp only [bitsA] at ih
     unfold lpN
     conv=>lhs;arg 2;whnf
     simp +contextual -implicitDefEqProofs (maxSteps:=9^9) only [↓wkA,↓lv171,↓fz171,wuH,↓reduceIte,xA,xB,xC,xD,xE,xF,reduceCtorEq,xH,xI,xJ,xK,xL,xM,xN,xO,hi,hi3,hi4,hw,hc,bitsA_get,ih,lq171_0,decide_eq_true_eq,hk1,hkm,ha,he,bitsA,wbr]
theorem loop173_0{n:Nat}(hb:n<100000){v:LI}{k:KK}{X:LI→OO}
  (h2:∀(xs:LI) fr nx,xs.length=n→look 6 fr=some (.row 0 0 n)→k (.exit 1) ⟨fr,[(0,.arr 162 1 (xs.map fun b=>[.int .u8 b]))],nx,[]⟩=X xs) :
  ∀(r i:Nat)(xs:LI),i+r=n→xs.length=n→lpN ⟨39,0,kpOf 173,noTab⟩ (lp Tryz.f173 0) ⟨[(0,bitsA v),(6,.row 0 0 n),(22,iA n),(23,iA i)],[(0,.arr 162 1 (xs.map fun b=>[.int .u8 b]))],1,[]⟩ k=X (fillC (gRS v) r i xs)
 | 0,i,xs,hr,hx=>by
   have hi:decide ((i:Int)<(n:Nat))=false:=by simp;omega
   have h3:=fun fr nx=>h2 xs fr nx hx
   unfold lpN
   conv=>lhs;arg 2;whnf
   simp +contextual -implicitDefEqProofs (maxSteps:=9^9) only [↓wkA,↓lv173,↓fz173,wuH,↓reduceIte,xA,xB,xC,xD,xE,xF,reduceCtorEq,xH,xI,xJ,xK,xL,xM,xN,xO,hi,h3,fillC,wbr]
 | r+1,i,xs,hr,hx=>by
   have hi:decide ((i:Int)<(n:Nat))=true:=by simp;omega
   have hi3:i<n:=by omega
   have hi4:n≤xs.length:=by omega
   obtain⟨c,hc⟩:∃ c,xs[i]?=some c:=⟨_,List.getElem?_eq_getElem (by omega)⟩
   have hw:IntKind.i64.wrap ((i:Int)+1)=((i+1:Nat):Int):=wrap_succ (by omega)
   cases ha:decide ((i:Int)<(v.length:Nat)) with
   | false =>
     have hg:gRS v i=none:=List.getElem?_eq_none (by have:=of_decide_eq_false ha;omega)
     rw [fillC_none hg]
     have ih:=loop173_0 hb (v:=v) h2 r (i+1) xs (by omega) hx
     unfold lpN
     conv=>lhs;arg 2;whnf
     simp +contextual -implicitDefEqProofs (maxSteps:=9^9) only [↓wkA,↓lv173,↓fz173,wuH,↓reduceIte,xA,xB,xC,xD,xE,xF,reduceCtorEq,xH,xI,xJ,xK,xL,xM,xN,xO,hi,hi3,hi4,hw,hc,bitsA_get,ih,lq173_0,decide_eq_true_eq,ha,wbr]
   | true =>
     have ha':=of_decide_eq_true ha
     obtain⟨e,he⟩:∃ e,v[i]?=some e:=⟨_,List.getElem?_eq_getElem (by omega)⟩
     have hg:gRS v i=some e:=he
     rw [fillC_some hg]
     have ih:=loop173_0 hb (v:=v) h2 r (i+1) (xs.set i e) (by omega) (by rw [List.length_set];exact hx)
     simp only [bitsA] at ih
     unfold lpN
     conv=>lhs;arg 2;whnf
     simp +contextual -implicitDefEqProofs (maxSteps:=9^9) only [↓wkA,↓lv173,↓fz173,wuH,↓reduceIte,xA,xB,xC,xD,xE,xF,reduceCtorEq,xH,xI,xJ,xK,xL,xM,xN,xO,hi,hi3,hi4,hw,hc,bitsA_get,ih,lq173_0,decide_eq_true_eq,ha,he,bitsA,wbr]
theorem isP_all{v:LI}(h:isP v=true)(h0:∀ b∈v,(0:Int)≤b):(v.all isBitB&&(decide ((1:Int)≤(v.length:Nat))&&decide (((v.length:Nat):Int)≤64)))=true:=by
 rw [isP_eq h0,h]
theorem run170{v:LI}(hp:isP v=true)(h0:∀ b∈v,(0:Int)≤b){k:Int}(hk:decide (k<0)=false)(hk2:k≤2147483647):evW 170 [bitsA v,iA k] []=oR (.tup [bitsA (tabL (v.length) (gRL v k)),okE]):=by
 have h97:=run97 (isP_lt hp)
 rw [isP_all hp h0] at h97
 have hl:=isP_len hp
 simp only [bitsA] at h97
 have h253:=run253 (b:=0) (n:=v.length) (by omega) (by omega)
 rw [← fillC_tab]
 rw [w170 rfl]
 conv=>lhs;arg 2;whnf
 simp +contextual -implicitDefEqProofs (maxSteps:=9^9) only [↓wkA,↓lv170,↓fz170,wuH,↓reduceIte,xA,xB,xC,xD,xE,xF,reduceCtorEq,xH,xI,xJ,xK,xL,xM,xN,xO,h97,hk,h253,bitsA,wbr]
 refine(lpX_code (c':=lp Tryz.f170 0) (by kernel_rfl)).trans ?_
 rw [lq170_0]
 try simp +contextual -implicitDefEqProofs (maxSteps:=9^9) only [↓wkA,↓lv170,↓fz170,wuH,↓reduceIte,xA,xB,xC,xD,xE,xF,reduceCtorEq,xH,xI,xJ,xK,xL,xM,xN,xO,h97,hk,h253,wbr]
 refine(loop170_0 (n:=v.length) (by omega) (v:=v) (by_:=k) (by have:=of_decide_eq_false hk;omega) rfl (X:=fun xs=>oR (.tup [bitsA xs,okE])) ?_ (v.length) 0 (List.replicate (v.length) 0) (by omega) (by simp)).trans ?_
 ·intro xs fr nx hx hlk
  have hd:decide ((v.length)≤xs.length)=true:=by simp;omega
  have htk:List.take (v.length) (xs.map fun b=>[AV.int .u8 b])=xs.map fun b=>[AV.int .u8 b]:=List.take_of_length_le (by rw [List.length_map];omega)
  simp +contextual -implicitDefEqProofs (maxSteps:=9^9) only [↓wkA,↓lv170,↓fz170,wuH,↓reduceIte,xA,xB,xC,xD,xE,xF,reduceCtorEq,xH,xI,xJ,xK,xL,xM,xN,xO,hlk,hd,htk,bitsA,wbr]
 ·rfl
theorem run171{v:LI}(hp:isP v=true)(h0:∀ b∈v,(0:Int)≤b){k:Int}(hk:decide (k<0)=false)(hk2:k≤2147483647):evW 171 [bitsA v,iA k] []=oR (.tup [bitsA (tabL (v.length) (gRR v k)),okE]):=by
 have h97:=run97 (isP_lt hp)
 rw [isP_all hp h0] at h97
 have hl:=isP_len hp
 simp only [bitsA] at h97
 have h253:=run253 (b:=0) (n:=v.length) (by omega) (by omega)
 rw [← fillC_tab]
 rw [w171 rfl]
 conv=>lhs;arg 2;whnf
 simp +contextual -implicitDefEqProofs (maxSteps:=9^9) only [↓wkA,↓lv171,↓fz171,wuH,↓reduceIte,xA,xB,xC,xD,xE,xF,reduceCtorEq,xH,xI,xJ,xK,xL,xM,xN,xO,h97,hk,h253,bitsA,wbr]
 refine(lpX_code (c':=lp Tryz.f171 0) (by kernel_rfl)).trans ?_
 rw [lq171_0]
 try simp +contextual -implicitDefEqProofs (maxSteps:=9^9) only [↓wkA,↓lv171,↓fz171,wuH,↓reduceIte,xA,xB,xC,xD,xE,xF,reduceCtorEq,xH,xI,xJ,xK,xL,xM,xN,xO,h97,hk,h253,wbr]
 refine(loop171_0 (n:=v.length) (by omega) (v:=v) (by_:=k) (by have:=of_decide_eq_false hk;omega) rfl (X:=fun xs=>oR (.tup [bitsA xs,okE])) ?_ (v.length) 0 (List.replicate (v.length) 0) (by omega) (by simp)).trans ?_
 ·intro xs fr nx hx hlk
  have hd:decide ((v.length)≤xs.length)=true:=by simp;omega
  have htk:List.take (v.length) (xs.map fun b=>[AV.int .u8 b])=xs.map fun b=>[AV.int .u8 b]:=List.take_of_length_le (by rw [List.length_map];omega)
  simp +contextual -implicitDefEqProofs (maxSteps:=9^9) only [↓wkA,↓lv171,↓fz171,wuH,↓reduceIte,xA,xB,xC,xD,xE,xF,reduceCtorEq,xH,xI,xJ,xK,xL,xM,xN,xO,hlk,hd,htk,bitsA,wbr]
 ·rfl
theorem run170e{v:LI}(hp:isP v=true)(h0:∀ b∈v,(0:Int)≤b){k:Int}(hk:decide (k<0)=true):evW 170 [bitsA v,iA k] []=oR (.tup [.sl 1 [],iA 19]):=by
 have h97:=run97 (isP_lt hp)
 rw [isP_all hp h0] at h97
 have hl:=isP_len hp
 rw [w170 rfl]
 conv=>lhs;arg 2;whnf
 simp +contextual -implicitDefEqProofs (maxSteps:=9^9) only [↓wkA,↓lv170,↓fz170,wuH,↓reduceIte,xA,xB,xC,xD,xE,xF,reduceCtorEq,xH,xI,xJ,xK,xL,xM,xN,xO,h97,hk,wbr]
theorem run171e{v:LI}(hp:isP v=true)(h0:∀ b∈v,(0:Int)≤b){k:Int}(hk:decide (k<0)=true):evW 171 [bitsA v,iA k] []=oR (.tup [.sl 1 [],iA 19]):=by
 have h97:=run97 (isP_lt hp)
 rw [isP_all hp h0] at h97
 have hl:=isP_len hp
 rw [w171 rfl]
 conv=>lhs;arg 2;whnf
 simp +contextual -implicitDefEqProofs (maxSteps:=9^9) only [↓wkA,↓lv171,↓fz171,wuH,↓reduceIte,xA,xB,xC,xD,xE,xF,reduceCtorEq,xH,xI,xJ,xK,xL,xM,xN,xO,h97,hk,wbr]
theorem run173{v:LI}(hp:isP v=true)(h0:∀ b∈v,(0:Int)≤b){n:Nat}(h1:1≤n)(h2:n≤64):evW 173 [bitsA v,iA n] []=oR (.tup [bitsA (tabL (n) (gRS v)),okE]):=by
 have h97:=run97 (isP_lt hp)
 rw [isP_all hp h0] at h97
 have hl:=isP_len hp
 simp only [bitsA] at h97
 have h253:=run253 (b:=0) (n:=n) (by omega) (by omega)
 have q1:decide (((n:Nat):Int)<1)=false:=by simp;omega
 have q2:decide ((64:Int)<(n:Nat))=false:=by simp;omega
 rw [← fillC_tab]
 rw [w173 rfl]
 conv=>lhs;arg 2;whnf
 simp +contextual -implicitDefEqProofs (maxSteps:=9^9) only [↓wkA,↓lv173,↓fz173,wuH,↓reduceIte,xA,xB,xC,xD,xE,xF,reduceCtorEq,xH,xI,xJ,xK,xL,xM,xN,xO,h97,q1,q2,h253,bitsA,wbr]
 refine(lpX_code (c':=lp Tryz.f173 0) (by kernel_rfl)).trans ?_
 rw [lq173_0]
 try simp +contextual -implicitDefEqProofs (maxSteps:=9^9) only [↓wkA,↓lv173,↓fz173,wuH,↓reduceIte,xA,xB,xC,xD,xE,xF,reduceCtorEq,xH,xI,xJ,xK,xL,xM,xN,xO,h97,q1,q2,h253,wbr]
 refine(loop173_0 (n:=n) (by omega) (v:=v) (X:=fun xs=>oR (.tup [bitsA xs,okE])) ?_ (n) 0 (List.replicate (n) 0) (by omega) (by simp)).trans ?_
 ·intro xs fr nx hx hlk
  have hd:decide ((n)≤xs.length)=true:=by simp;omega
  have htk:List.take (n) (xs.map fun b=>[AV.int .u8 b])=xs.map fun b=>[AV.int .u8 b]:=List.take_of_length_le (by rw [List.length_map];omega)
  simp +contextual -implicitDefEqProofs (maxSteps:=9^9) only [↓wkA,↓lv173,↓fz173,wuH,↓reduceIte,xA,xB,xC,xD,xE,xF,reduceCtorEq,xH,xI,xJ,xK,xL,xM,xN,xO,hlk,hd,htk,bitsA,wbr]
 ·rfl
theorem tabL_congr{n:Nat}{g g':Nat→Option Int}(h:∀ i,i<n→(g i).getD 0=(g' i).getD 0):tabL n g=tabL n g':=by
 unfold tabL
 exact List.map_congr_left fun i hi=>h i (List.mem_range.1 hi)
theorem left_eq{v:LI}{k:Int}(hv:v.length≤64)(hk:0≤k):tabL v.length (gM v (if 64<k then 64 else k))=tabL v.length (gRL v k):=by
 apply tabL_congr
 intro i hi
 unfold gM gRL
 by_cases h:64<k
 ·rw [if_pos h,if_neg (by omega),if_neg (by omega)]
 ·rw [if_neg h]
  by_cases h2:k≤(i:Int)
  ·rw [if_pos (by omega),if_pos h2]
  ·rw [if_neg (by omega),if_neg h2]
theorem right_eq{v:LI}{k:Int}(hv:v.length≤64)(hk:0≤k):tabL v.length (gM v (-(if 64<k then 64 else k)))=tabL v.length (gRR v k):=by
 apply tabL_congr
 intro i hi
 unfold gM gRR
 by_cases h:64<k
 ·rw [if_pos h,if_pos (by omega),if_neg (by omega),List.getElem?_eq_none (by omega)]
 ·rw [if_neg h,if_pos (by omega)]
  by_cases h2:k<(v.length:Int)-i
  ·rw [if_pos h2,show (i:Int) - -k=(i:Int)+k by omega]
  ·rw [if_neg h2,List.getElem?_eq_none (by omega)]
theorem resize_eq{v:LI}{n:Nat}:v.take n++List.replicate (n-v.length) 0=tabL n (gRS v):=by
 apply List.ext_getElem?
 intro j
 unfold tabL gRS
 by_cases hj:j<n
 ·by_cases h:j<v.length
  ·rw [List.getElem?_append_left (by simp;omega)]
   simp [hj,h]
  ·rw [List.getElem?_append_right (by simp;omega)]
   simp [hj,List.getElem?_replicate,show ¬ j<v.length from h]
   omega
 ·rw [List.getElem?_eq_none (by simp;omega)]
  simp [hj]
theorem copy_bits{b n:Nat}{v:LI}:copyD cfg.G [(b,.arr 162 1 ((List.replicate n 0).map fun x=>[AV.int .u8 x]))] 30 (.row b 0 n) (bitsA v)=some (iA (min v.length n:Nat),[(b,.arr 162 1 ((v.take n++List.replicate (n-v.length) 0).map fun x=>[AV.int .u8 x]))]):=by
 have e1:sliceElem cfg.G 30=some ty162:=by kernel_rfl
 have e2:ty162.size=1:=rfl
 unfold copyD
 rw [e1]
 simp only [Option.bind_some,e2,eo_bits,look_cons_self]
 rw [if_pos ⟨by simp,trivial⟩]
 simp only [List.length_map,Option.some.injEq,Prod.mk.injEq,true_and,List.cons.injEq,and_true,Obj'.arr.injEq]
 rw [List.take_zero,List.nil_append,List.map_append,List.map_take,Nat.zero_add,← List.map_drop]
 congr 2
 rw [List.drop_replicate]
 congr 1
 omega
theorem run243e{v:LI}(hp:isP v=true){n:Int}(hn:(decide (1≤n)&&decide (n≤64))=false):evW 243 [bitsA v,iA n] []=oR (.tup [.sl 1 [],iA 19]):=by
 have h188:=run188 (isP_lt hp)
 rw [hp] at h188
 have h297:=run297 (n:=n)
 rw [hn] at h297
 rw [w243 rfl]
 conv=>lhs;arg 2;whnf
 simp +contextual -implicitDefEqProofs (maxSteps:=9^9) only [↓wkA,↓lv243,↓fz243,wuH,↓reduceIte,xA,xB,xC,xD,xE,xF,reduceCtorEq,xH,xI,xJ,xK,xL,xM,xN,xO,h188,h297,wbr]
theorem run243{v:LI}(hp:isP v=true){n:Nat}(h1:1≤n)(h2:n≤64):evW 243 [bitsA v,iA n] []=oR (.tup [bitsA (v.take n++List.replicate (n-v.length) 0),okE]):=by
 have h188:=run188 (isP_lt hp)
 rw [hp] at h188
 have h297:=run297 (n:=n)
 rw [show (decide ((1:Int)≤(n:Nat))&&decide (((n:Nat):Int)≤64))=true by simp;omega] at h297
 have hm:decide ((0:Int)≤(n:Nat)∧((n:Nat):Int)≤1000000)=true:=by simp;omega
 have hlen:((v.take n++List.replicate (n-v.length) 0).map fun x=>[AV.int .u8 x]).length=n:=by simp;omega
 have htk:List.take n ((v.take n++List.replicate (n-v.length) 0).map fun x=>[AV.int .u8 x])=((v.take n++List.replicate (n-v.length) 0).map fun x=>[AV.int .u8 x]):=List.take_of_length_le (by omega)
 have hd:decide (n≤(v.take n++List.replicate (n-v.length) 0).length)=true:=by simp;omega
 rw [w243 rfl]
 conv=>lhs;arg 2;whnf
 simp +contextual -implicitDefEqProofs (maxSteps:=9^9) only [↓wkA,↓lv243,↓fz243,wuH,↓reduceIte,xA,xB,xC,xD,xE,xF,reduceCtorEq,xH,xI,xJ,xK,xL,xM,xN,xO,h188,h297,hm,rep8,copy_bits,htk,hd,wbr]
 rfl
theorem run295{b:Int}:evW 295 [.int .u8 b] []=oR (.int .u8 (br (b==0) 1 (br (b==1) 0 2))):=by
 rw [w295 rfl]
 conv=>lhs;arg 2;whnf
 simp +contextual -implicitDefEqProofs (maxSteps:=9^9) only [↓wkA,↓lv295,↓fz295,wuH,↓reduceIte,xA,xB,xC,xD,xE,xF,reduceCtorEq,xH,xI,xJ,xK,xL,xM,xN,xO,wbr]
end Go.Proofs.YtdhcgankmhpgeaaGreat.M
