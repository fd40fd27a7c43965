import Derived.OpenShut
import Derived.Lib.SmallJoins
import Derived.SliceStrings
import Derived.Test.YtdhcgankmhpgeaaGreatB08
import Derived.Test.YtdhcgankmhpgeaaGreatB12
set_option linter.all false
namespace Go.Proofs.YtdhcgankmhpgeaaGreat.M
open Go Go.RowKit
inductive VT where
 | mk (k n:Int) (bs:LI) (ls:List VT)
inductive TT where
 | mk (k l:Int) (s:LU) (ns:LB) (es:List TT)
def rowB(bs:LI):AV := .sl 1 (bs.map fun b=>[.int .u8 b])
def rowS(ns:LB):AV := .sl 1 (ns.map fun s=>[.str s])
def vC:VT→List AV
 | .mk k n bs ls=>[.int .i64 k,.int .i64 n,rowB bs,.sl 4 (ls.map vC)]
def tC:TT→List AV
 | .mk k l s ns es=>[.int .i64 k,.int .i64 l,.str s,rowS ns,.sl 5 (es.map tC)]
theorem cell_home{w:World}{a:Addr}{v:Value}(h:w.cell? a=some v):a.spot=none∧a.block<w.heap.size:=by
 obtain⟨g,off,spot⟩:=a
 cases spot with
 | none =>
   refine⟨rfl,?_⟩
   simp only [World.cell?] at h
   split at h
   ·rename_i hh
    exact(Array.getElem?_eq_some_iff.1 hh).1
   ·cases h
 | some s =>
   exfalso
   simp only [World.cell?] at h
   split at h
   ·simp at h
   ·cases h
theorem repM_ot{w:World}{I:Nat→Prop}{pl:Plan}{g:Nat}:∀{xs:List AV}{cs:List Value}{off:Nat},RepL w I pl xs cs→(∀ v∈cs,v.oneCell'=true)→(∀ i,i<cs.length→cellAt w g (off+i)=cs[i]?)→RepM w I pl xs g off
 | [],_,_,_,_,_=>by simp only [RepM]
 | x::xs,cs,off,h,ho,hc=>by
   simp only [RepL] at h
   obtain⟨v,vs,rfl,h1,h2⟩:=h
   simp only [RepM]
   refine⟨⟨v,by simpa using hc 0 (by simp),ho v (by simp),h1⟩,repM_ot h2 (fun u hu=>ho u (by simp [hu])) fun i hi=>?_⟩
   have:=hc (i+1) (by simpa using hi)
   rw [show off+1+i=off+(i+1) by omega]
   simpa using this
theorem repE_ot{w:World}{I:Nat→Prop}{pl:Plan}{g sz:Nat}{p:List AV→Prop}:∀(n:Nat){off:Nat},(∀ i,i<n→∃ x:List AV,p x∧x.length=sz∧RepM w I pl x g (off+i*sz)) →
  ∃ es:List (List AV),es.length=n∧(∀ x∈es,p x)∧RepE w I pl sz es g off
 | 0,off,h=>⟨[],rfl,by simp,by simp only [RepE]⟩
 | n+1,off,h=>by
   obtain⟨x,h1,h2,h3⟩:=h 0 (by omega)
   obtain⟨es,k1,k2,k3⟩:=repE_ot (off:=off+sz) n fun i hi=>by
    obtain⟨y,y1,y2,y3⟩:=h (i+1) (by omega)
    exact⟨y,y1,y2,by rwa [show off+sz+i*sz=off+(i+1)*sz by rw [Nat.add_mul];omega]⟩
   refine⟨x::es,by simp [k1],by simpa using ⟨h1,k2⟩,?_⟩
   simp only [RepE]
   exact⟨h2,by simpa using h3,k3⟩
section
variable {H : Type} {enc : TypeId × Value → H} {P : Program} {w : World} {base : Nat} {spare : Nat → Bool} {held : Bool}
theorem open_row{t e:TypeId}{sz fuel:Nat}{cs:List Value}{x:DataW H×List MemPlace}{p:List AV→Prop}(ht:P.underlying t=some (.slice e))(hs:P.cellsOf e=sz)(h0:0<sz)
  (h:DataW.trod enc P w base spare held fuel t cs=some x)
  (hp:∀(n:Nat)(cs:List Value)(x:DataW H×List MemPlace),n<fuel→cs.length=sz→DataW.trod enc P w base spare held n e cs=some x→∃ xs,p xs∧RepL w (old w) nopl xs cs∧∀ v∈cs,v.oneCell'=true) :
  ∃ es:List (List AV),RepL w (old w) nopl [.sl sz es] cs∧es.length≤maxLen∧(∀ v∈cs,v.oneCell'=true)∧∀ x∈es,p x:=by
 rcases DataW.trod_slice ht h with ⟨rfl,_⟩|⟨a,len,cap,elems,rest,n,rfl,rfl,rfl,hb,hl,hm,hlen,hel,_⟩
 ·refine⟨[],?_,by simp,by simp [Value.oneCell'],by simp⟩
  simp only [RepL,Rep]
  exact⟨_,_,rfl,⟨_,_,_,rfl,rfl,Nat.le_refl _,Nat.zero_le _,.inl trivial⟩,rfl⟩
 ·cases len with
  | zero =>
    refine⟨[],?_,by simp,by simp [Value.oneCell'],by simp⟩
    simp only [RepL,Rep]
    exact⟨_,_,rfl,⟨_,_,_,rfl,rfl,hl,hm,.inl trivial⟩,rfl⟩
  | succ len =>
    rw [hs] at hel
    have each:∀ i,i<len+1→∃ cs x,w.cells? base (a.add (i*sz)) sz=some cs∧DataW.trod enc P w base spare held n e cs=some x:=fun i hi=>by
     have h1:=hel i hi
     rw [List.getElem?_eq_getElem (by omega),Option.bind_eq_some_iff] at h1
     obtain⟨cs,h1,h2⟩:=h1
     exact⟨cs,_,h1,h2⟩
    have hh:a.spot=none∧a.block<w.heap.size:=by
     obtain⟨cs,x,h1,_⟩:=each 0 (by omega)
     have h2:=World.cells?_some h1
     have h3:=h2.2.2 0 h0
     rw [List.getElem?_eq_getElem (by omega)] at h3
     have:=cell_home h3
     simpa [Addr.add] using this
    obtain⟨g,off,spot⟩:=a
    obtain⟨rfl,hg⟩:=hh
    obtain⟨es,k1,k2,k3⟩:=repE_ot (w:=w) (I:=old w) (pl:=nopl) (g:=g) (sz:=sz) (p:=p) (len+1) (off:=off) fun i hi=>by
     obtain⟨cs,x,h1,h2⟩:=each i hi
     have h3:=World.cells?_some h1
     obtain⟨xs,q1,q2,q3⟩:=hp n cs x (by omega) h3.2.1 h2
     refine⟨xs,q1,(repL_length q2).symm.trans h3.2.1,repM_ot q2 q3 fun j hj=>?_⟩
     have:=h3.2.2 j (by omega)
     unfold cellAt
     rw [← this]
     congr 1
     simp only [Addr.add]
     repeat' split
     all_goals simp_all
    refine⟨es,?_,by omega,by simp [Value.oneCell'],k2⟩
    simp only [RepL,Rep]
    exact⟨_,_,rfl,⟨_,_,_,rfl,k1,hl,hm,.inr ⟨g,off,rfl,hg,k3⟩⟩,rfl⟩
theorem repL_apd{I:Nat→Prop}{pl:Plan}:∀{xs ys:List AV}{us vs:List Value},RepL w I pl xs us→RepL w I pl ys vs→RepL w I pl (xs++ys) (us++vs)
 | [],ys,us,vs,h,k=>by
   simp only [RepL] at h
   subst h
   simpa using k
 | x::xs,ys,us,vs,h,k=>by
   simp only [RepL] at h
   obtain⟨v,vs',rfl,h1,h2⟩:=h
   simp only [List.cons_append,RepL]
   exact⟨v,_,rfl,h1,repL_apd h2 k⟩
theorem map_of{α:Type}{f:α→List AV}:∀{es:List (List AV)},(∀ x∈es,∃ a,x=f a)→∃ ls:List α,es=ls.map f
 | [],_=>⟨[],rfl⟩
 | x::es,h=>by
   obtain⟨a,rfl⟩:=h x (by simp)
   obtain⟨ls,rfl⟩:=map_of (es:=es) fun y hy=>h y (List.mem_cons_of_mem _ hy)
   exact⟨a::ls,rfl⟩
theorem open_strs{t:TypeId}{fuel:Nat}{cs:List Value}{x:DataW H×List MemPlace}(ht:P.underlying t=some (.slice 9))(hi:P.underlying 9=some .string)(hc:P.cellsOf 9=1)
  (h:DataW.trod enc P w base spare held fuel t cs=some x):∃ bs:LB,RepL w (old w) nopl [rowS bs] cs∧bs.length≤maxLen∧(∀ v∈cs,v.oneCell'=true)∧∀ s∈bs,s.length≤maxLen:=by
 obtain⟨es,h1,h2,h3,h4⟩:=open_row (p:=fun xs=>∃ s:LU,xs=[.str s]∧s.length≤maxLen) ht hc (by omega) h fun n cs x _ _ hx=>by
  obtain⟨s,rfl,_,hs⟩:=DataW.trod_string hi hx
  exact⟨_,⟨s.data.toList,rfl,by simpa using hs⟩,by simp [RepL,Rep],by simp [Value.oneCell']⟩
 have:∃ bs:LB,es=bs.map (fun s=>[.str s])∧∀ s∈bs,s.length≤maxLen:=by
  clear h1 h2
  induction es with
  | nil=>exact⟨[],rfl,by simp⟩
  | cons x es ih =>
    obtain⟨s,rfl,hs⟩:=h4 x (by simp)
    obtain⟨bs,rfl,hb⟩:=ih fun y hy=>h4 y (by simp [hy])
    exact⟨s::bs,rfl,by simpa using ⟨hs,hb⟩⟩
 obtain⟨bs,rfl,hb⟩:=this
 exact⟨bs,h1,by simpa using h2,h3,hb⟩
end
def vOk:VT→Prop
 | .mk _ _ bs ls=>bs.length≤maxLen∧ls.length≤maxLen∧∀ v∈ls,vOk v
def tOk:TT→Prop
 | .mk _ _ s ns es=>s.length≤maxLen∧ns.length≤maxLen∧(∀ x∈ns,x.length≤maxLen)∧es.length≤maxLen∧∀ t∈es,tOk t
theorem map_of2{α:Type}{f:α→List AV}{q:α→Prop}:∀{es:List (List AV)},(∀ x∈es,∃ a,x=f a∧q a)→∃ ls:List α,es=ls.map f∧∀ a∈ls,q a
 | [],_=>⟨[],rfl,by simp⟩
 | x::es,h=>by
   obtain⟨a,rfl,ha⟩:=h x (by simp)
   obtain⟨ls,rfl,hl⟩:=map_of2 (es:=es) fun y hy=>h y (List.mem_cons_of_mem _ hy)
   exact⟨a::ls,rfl,by simpa using ⟨ha,hl⟩⟩
theorem c33:Tryz.prog.cellsOf 33=4:=by kernel_rfl
theorem c38:Tryz.prog.cellsOf 38=5:=by kernel_rfl
theorem c162:Tryz.prog.cellsOf 162=1:=by kernel_rfl
theorem c9:Tryz.prog.cellsOf 9=1:=by kernel_rfl
theorem c3:Tryz.prog.cellsOf 3=1:=by kernel_rfl
theorem c31:Tryz.prog.cellsOf 31=1:=by kernel_rfl
theorem c30:Tryz.prog.cellsOf 30=1:=by kernel_rfl
theorem c23:Tryz.prog.cellsOf 23=1:=by kernel_rfl
theorem c35:Tryz.prog.cellsOf 35=1:=by kernel_rfl
theorem c36:Tryz.prog.cellsOf 36=1:=by kernel_rfl
section
variable {H : Type} {enc : TypeId × Value → H} {w : World} {base : Nat} {spare : Nat → Bool} {held : Bool}
set_option maxRecDepth 100000 in
theorem open_type:∀(n:Nat){cs:List Value}{x:DataW H×List MemPlace},DataW.trod enc Tryz.prog w base spare held n 38 cs=some x→∃ V,tOk V∧RepL w (old w) nopl (tC V) cs∧∀ v∈cs,v.oneCell'=true
 | n,cs,x,h=>by
   obtain⟨xs,m,rfl,rfl,hl,hlen,hf⟩:=DataW.trod_struct Tryz.underlying38 h
   rw [c38] at hl
   match cs,hl with
   | [a,b,s,c,d],_ =>
     match xs,hlen with
     | [xa,xb,xs,xc,xd],_ =>
       have f0:=hf 0 _ rfl
       have f1:=hf 1 _ rfl
       have fs:=hf 2 _ rfl
       have f2:=hf 3 _ rfl
       have f3:=hf 4 _ rfl
       simp only [c31,c3,c9,c35,c36,List.drop_zero,List.drop_succ_cons,List.take_succ_cons,List.take_zero,List.getElem?_cons_zero,List.getElem?_cons_succ] at f0 f1 fs f2 f3
       obtain⟨k,e0,_,_⟩:=DataW.trod_int Tryz.underlying31 f0
       obtain⟨i,e1,_,_⟩:=DataW.trod_int Tryz.underlying3 f1
       obtain⟨st,es,_,ls⟩:=DataW.trod_string Tryz.underlying9 fs
       obtain⟨ns,r2,l2,o2,m2⟩:=open_strs Tryz.underlying35 Tryz.underlying9 c9 f2
       obtain⟨es',r3,l3,o3,q3⟩:=open_row (p:=fun xs=>∃ V,xs=tC V∧tOk V) Tryz.underlying36 c38 (by omega) f3 fun n' cs' x' hn _ hx=>by
        obtain⟨V,v1,v2,v3⟩:=open_type n' hx
        exact⟨_,⟨V,rfl,v1⟩,v2,v3⟩
       obtain⟨ls',rfl,hls⟩:=map_of2 q3
       obtain rfl:=(List.cons.inj e0).1
       obtain rfl:=(List.cons.inj e1).1
       obtain rfl:=(List.cons.inj es).1
       refine⟨.mk k i st.data.toList ns ls',by rw [tOk];exact⟨by simpa using ls,l2,m2,by simpa using l3,hls⟩,?_,?_⟩
       ·rw [tC]
        exact repL_apd (xs:=[.int .i64 k,.int .i64 i,.str st.data.toList]) (us:=[.int .i64 k,.int .i64 i,.string st]) (by simp only [RepL,Rep];exact⟨_,_,rfl,rfl,_,_,rfl,rfl,_,_,rfl,⟨_,rfl,rfl⟩,rfl⟩) (repL_apd (xs:=[rowS ns]) (us:=[c]) r2 r3)
       ·intro v hv
        simp only [List.mem_cons,List.not_mem_nil,or_false] at hv
        rcases hv with rfl|rfl|rfl|rfl|rfl
        ·rfl
        ·rfl
        ·rfl
        ·exact o2 _ (List.mem_singleton.2 rfl)
        ·exact o3 _ (List.mem_singleton.2 rfl)
termination_by n=>n
end
end Go.Proofs.YtdhcgankmhpgeaaGreat.M
namespace Go.Proofs.YtdhcgankmhpgeaaGreat.M
open Go
open Nat renaming reduceEqDiff → xA, reduceLT → xB, reduceAdd → xC, reduceMul → xD, reduceSub → xE, reduceDiv → xF, reduceLeDiff → xN
open Int renaming reduceAdd → xH, reduceLE → xI, reduceLT → xJ, reduceToNat → xK, reduceEq → xL, reduceBEq → xM
open UInt8 renaming reduceToNat → xO
set_option maxRecDepth 100000
set_option maxHeartbeats 4000000
attribute [local congr] br_congr ob2_congr cnd_congr gdK_congr ob_congr clK_congr finK_congr reg_congr pkK_congr kTK_congr dlT_congr gck_congr iff2_congr sel_congr dPn_congr apJ_congr nmK_congr kTo_congr fzO_congr rcK_congr lvB_congr crK_congr cdB_congr
theorem map_get{α β:Type}{f:α→β}{l:List α}{i:Nat}:(l.map f)[i]?=(l[i]?).map f:=List.getElem?_map
abbrev sC(s:LU):List AV:=[.str s]
theorem keysE_map{α:Type}{f:α→List AV}(h:∀ a,keysL (f a)=[]):∀{l:List α},keysE (l.map f)=[]
 | []=>rfl
 | x::r=>by
   rw [List.map_cons,kE_cons,h,keysE_map h]
   rfl
theorem keysE_sC{l:LB}:keysE (l.map sC)=[]:=keysE_map fun _=>rfl
abbrev tv(k l:Int)(s:LU)(ns es:LA):AV := .agg [iA k,iA l,.str s,.sl 1 ns,.sl 5 es]
abbrev vv(k n:Int)(bs ls:LA):AV := .agg [iA k,iA n,.sl 1 bs,.sl 4 ls]
theorem loop225r{L:LB}{s:LU}(hb:L.length<4611686018427387904){k:KK}{X:Int→OO}(h1:∀ (j:Nat) fr nx,k .ret ⟨(4,iA j)::fr,[(0,.arr 9 1 (L.map sC))],nx,[]⟩=X j)(h2:∀ fr nx,k (.exit 0) ⟨fr,[(0,.arr 9 1 (L.map sC))],nx,[]⟩=X (-1)) :
  ∀(rest:LB)(i:Nat) ,L.drop i=rest→lpN ⟨19,1,kpOf 225,noTab⟩ (lp Tryz.f225 0) ⟨[(0,.row 0 0 L.length),(1,.str s),(7,iA L.length),(8,iA i)],[(0,.arr 9 1 (L.map sC))],1,[]⟩ k=X (firstFrom (fun x=>s==x) i rest)
 | [],i,hd=>by
   have hi:=drop_ge hd
   unfold lpN
   conv=>lhs;arg 2;whnf
   simp +contextual -implicitDefEqProofs (maxSteps:=9^9) only [↓wkA,↓lv225,↓fz225,wuH,↓reduceIte,xA,xB,xC,xD,xE,xF,reduceCtorEq,xH,xI,xJ,xK,xL,xM,xN,xO,hi,h1,h2,firstFrom,keysE_sC,wbr]
 | b::rest,i,hd=>by
   have hi:=drop_lt hd
   have hbi:=drop_at hd
   have hd2:=drop_nx hd
   have hw:IntKind.i64.wrap ((i:Int)+1)=((i+1:Nat):Int):=wrap_succ (by simp at hi;omega)
   have hiN:decide (i<L.length)=true:=by simpa using hi
   have ih:=loop225r (s:=s) hb h1 h2 rest (i+1) hd2
   unfold lpN
   conv=>lhs;arg 2;whnf
   simp +contextual -implicitDefEqProofs (maxSteps:=9^9) only [↓wkA,↓lv225,↓fz225,wuH,↓reduceIte,xA,xB,xC,xD,xE,xF,reduceCtorEq,xH,xI,xJ,xK,xL,xM,xN,xO,hi,hw,hbi,map_get,lq225_0,h1,h2,firstFrom,ih,hiN,keysE_sC,wbr]
theorem loop225s{L:LB}{s:LU}(hb:L.length<4611686018427387904){k:KK}{X:Int→OO}(h1:∀ (j:Nat) fr nx,k .ret ⟨(4,iA j)::fr,[],nx,[]⟩=X j)(h2:∀ fr nx,k (.exit 0) ⟨fr,[],nx,[]⟩=X (-1)) :
  ∀(rest:LB)(i:Nat) ,L.drop i=rest→lpN ⟨19,0,kpOf 225,noTab⟩ (lp Tryz.f225 0) ⟨[(0,.sl 1 (L.map sC)),(1,.str s),(7,iA L.length),(8,iA i)],[],0,[]⟩ k=X (firstFrom (fun x=>s==x) i rest)
 | [],i,hd=>by
   have hi:=drop_ge hd
   unfold lpN
   conv=>lhs;arg 2;whnf
   simp +contextual -implicitDefEqProofs (maxSteps:=9^9) only [↓wkA,↓lv225,↓fz225,wuH,↓reduceIte,xA,xB,xC,xD,xE,xF,reduceCtorEq,xH,xI,xJ,xK,xL,xM,xN,xO,hi,h1,h2,firstFrom,keysE_sC,wbr]
 | b::rest,i,hd=>by
   have hi:=drop_lt hd
   have hbi:=drop_at hd
   have hd2:=drop_nx hd
   have hw:IntKind.i64.wrap ((i:Int)+1)=((i+1:Nat):Int):=wrap_succ (by simp at hi;omega)
   have hiN:decide (i<L.length)=true:=by simpa using hi
   have ih:=loop225s (s:=s) hb h1 h2 rest (i+1) hd2
   unfold lpN
   conv=>lhs;arg 2;whnf
   simp +contextual -implicitDefEqProofs (maxSteps:=9^9) only [↓wkA,↓lv225,↓fz225,wuH,↓reduceIte,xA,xB,xC,xD,xE,xF,reduceCtorEq,xH,xI,xJ,xK,xL,xM,xN,xO,hi,hw,hbi,map_get,lq225_0,h1,h2,firstFrom,ih,hiN,keysE_sC,wbr]
theorem run225r{L:LB}{s:LU}(hb:L.length<4611686018427387904):evW 225 [.row 0 0 L.length,.str s] [.arr 9 1 (L.map sC)]=some (.ret (iA (firstFrom (fun x=>s==x) 0 L)),[.arr 9 1 (L.map sC)]):=by
 rw [w225 rfl]
 conv=>lhs;arg 2;whnf
 simp +contextual -implicitDefEqProofs (maxSteps:=9^9) only [↓wkA,↓lv225,↓fz225,wuH,↓reduceIte,xA,xB,xC,xD,xE,xF,reduceCtorEq,xH,xI,xJ,xK,xL,xM,xN,xO,keysE_sC,wbr]
 refine(lpX_code (c':=lp Tryz.f225 0) (by kernel_rfl)).trans ?_
 rw [lq225_0]
 try simp +contextual -implicitDefEqProofs (maxSteps:=9^9) only [↓wkA,↓lv225,↓fz225,wuH,↓reduceIte,xA,xB,xC,xD,xE,xF,reduceCtorEq,xH,xI,xJ,xK,xL,xM,xN,xO,keysE_sC,wbr]
 refine(loop225r (s:=s) (X:=fun z=>some (.ret (iA z),[.arr 9 1 (L.map sC)])) hb ?_ ?_ L 0 rfl).trans ?_
 ·intro j fr nx
  simp +contextual -implicitDefEqProofs (maxSteps:=9^9) only [↓wkA,↓lv225,↓fz225,wuH,↓reduceIte,xA,xB,xC,xD,xE,xF,reduceCtorEq,xH,xI,xJ,xK,xL,xM,xN,xO,keysE_sC,wbr]
 ·intro fr nx
  simp +contextual -implicitDefEqProofs (maxSteps:=9^9) only [↓wkA,↓lv225,↓fz225,wuH,↓reduceIte,xA,xB,xC,xD,xE,xF,reduceCtorEq,xH,xI,xJ,xK,xL,xM,xN,xO,keysE_sC,wbr]
 rfl
theorem run225s{L:LB}{s:LU}(hb:L.length<4611686018427387904):evW 225 [.sl 1 (L.map sC),.str s] []=oR (iA (firstFrom (fun x=>s==x) 0 L)):=by
 rw [w225 rfl]
 conv=>lhs;arg 2;whnf
 simp +contextual -implicitDefEqProofs (maxSteps:=9^9) only [↓wkA,↓lv225,↓fz225,wuH,↓reduceIte,xA,xB,xC,xD,xE,xF,reduceCtorEq,xH,xI,xJ,xK,xL,xM,xN,xO,wbr]
 refine(lpX_code (c':=lp Tryz.f225 0) (by kernel_rfl)).trans ?_
 rw [lq225_0]
 try simp +contextual -implicitDefEqProofs (maxSteps:=9^9) only [↓wkA,↓lv225,↓fz225,wuH,↓reduceIte,xA,xB,xC,xD,xE,xF,reduceCtorEq,xH,xI,xJ,xK,xL,xM,xN,xO,wbr]
 refine(loop225s (s:=s) (X:=fun z=>oR (iA z)) hb ?_ ?_ L 0 rfl).trans ?_
 ·intro j fr nx
  simp +contextual -implicitDefEqProofs (maxSteps:=9^9) only [↓wkA,↓lv225,↓fz225,wuH,↓reduceIte,xA,xB,xC,xD,xE,xF,reduceCtorEq,xH,xI,xJ,xK,xL,xM,xN,xO,wbr]
 ·intro fr nx
  simp +contextual -implicitDefEqProofs (maxSteps:=9^9) only [↓wkA,↓lv225,↓fz225,wuH,↓reduceIte,xA,xB,xC,xD,xE,xF,reduceCtorEq,xH,xI,xJ,xK,xL,xM,xN,xO,wbr]
 rfl
theorem run140r{L:LB}{s:LU}(hb:L.length<4611686018427387904):evW 140 [.row 0 0 L.length,.str s] [.arr 9 1 (L.map sC)]=some (.ret (.bool (L.any fun x=>s==x)),[.arr 9 1 (L.map sC)]):=by
 have h3:=run225r (s:=s) hb
 rw [w140 rfl]
 conv=>lhs;arg 2;whnf
 simp +contextual -implicitDefEqProofs (maxSteps:=9^9) only [↓wkA,↓lv140,↓fz140,wuH,↓reduceIte,xA,xB,xC,xD,xE,xF,reduceCtorEq,xH,xI,xJ,xK,xL,xM,xN,xO,h3,firstFrom_any,keysE_sC,wbr]
theorem run140s{L:LB}{s:LU}(hb:L.length<4611686018427387904):evW 140 [.sl 1 (L.map sC),.str s] []=oR (.bool (L.any fun x=>s==x)):=by
 have h3:=run225s (s:=s) hb
 rw [w140 rfl]
 conv=>lhs;arg 2;whnf
 simp +contextual -implicitDefEqProofs (maxSteps:=9^9) only [↓wkA,↓lv140,↓fz140,wuH,↓reduceIte,xA,xB,xC,xD,xE,xF,reduceCtorEq,xH,xI,xJ,xK,xL,xM,xN,xO,h3,firstFrom_any,keysE_sC,wbr]
def fun8:LB:=[[114,105,115,105,110,103],[102,97,108,108,105,110,103],[116,111,95,105,110,116],[116,111,95,118,101,99],[114,101,115,105,122,101],[115,108,116],[105,115,95,120],[108,101,110,103,116,104]]
def ops21:LB:=[[97,110,100],[111,114],[120,111,114],[110,97,110,100],[110,111,114],[120,110,111,114],[61],[47,61],[60],[60,61],[62],[62,61],[43],[45],[42],[47],[109,111,100],[38],[115,104,108],[115,104,114],[110,111,116]]
theorem run139{s:LU}:evW 139 [.str s] []=oR (.bool (fun8.any fun x=>s==x)):=by
 have h3:=run140r (L:=fun8) (s:=s) (by decide)
 simp only [fun8,List.map_cons,List.map_nil,sC,List.length_cons,List.length_nil,Nat.reduceAdd] at h3
 rw [w139 rfl]
 conv=>lhs;arg 2;whnf
 simp +contextual -implicitDefEqProofs (maxSteps:=9^9) only [↓wkA,↓lv139,↓fz139,wuH,↓reduceIte,xA,xB,xC,xD,xE,xF,reduceCtorEq,xH,xI,xJ,xK,xL,xM,xN,xO,h3,List.set_cons_zero,List.set_cons_succ,wbr]
 rfl
theorem run72{s:LU}:evW 72 [.str s] []=oR (.bool ((fun8.any fun x=>s==x)||(ops21.any fun x=>s==x))):=by
 have h3:=run140r (L:=ops21) (s:=s) (by decide)
 simp only [ops21,List.map_cons,List.map_nil,sC,List.length_cons,List.length_nil,Nat.reduceAdd] at h3
 have h4:=run139 (s:=s)
 rw [w72 rfl]
 conv=>lhs;arg 2;whnf
 simp +contextual -implicitDefEqProofs (maxSteps:=9^9) only [↓wkA,↓lv72,↓fz72,wuH,↓reduceIte,xA,xB,xC,xD,xE,xF,reduceCtorEq,xH,xI,xJ,xK,xL,xM,xN,xO,h3,h4,List.set_cons_zero,List.set_cons_succ,wbr]
 cases (fun8.any fun x=>s==x)<;>first|exact trivial|rfl
theorem run245n{s:LU}(h:(fun8.any fun x=>s==x)=false):evW 245 [.str s] []=oR (.bool false):=by
 simp only [fun8,List.any_cons,List.any_nil,Bool.or_eq_false_iff] at h
 obtain⟨a0,a1,a2,a3,a4,a5,a6,a7,_⟩:=h
 rw [w245 rfl]
 conv=>lhs;arg 2;whnf
 simp +contextual -implicitDefEqProofs (maxSteps:=9^9) only [↓wkA,↓lv245,↓fz245,wuH,↓reduceIte,xA,xB,xC,xD,xE,xF,reduceCtorEq,xH,xI,xJ,xK,xL,xM,xN,xO,a0,a1,a2,a3,a4,a5,a6,a7,wbr]
theorem run154n{s:LU}(h:(fun8.any fun x=>s==x)=false)(h2:(ops21.any fun x=>s==x)=false):evW 154 [.str s] []=oR (.bool false):=by
 have h3:=run245n h
 simp only [ops21,List.any_cons,List.any_nil,Bool.or_eq_false_iff] at h2
 obtain⟨b0,b1,b2,b3,b4,b5,b6,b7,b8,b9,b10,b11,b12,b13,b14,b15,b16,b17,b18,b19,b20,_⟩:=h2
 rw [w154 rfl]
 conv=>lhs;arg 2;whnf
 simp +contextual -implicitDefEqProofs (maxSteps:=9^9) only [↓wkA,↓lv154,↓fz154,wuH,↓reduceIte,xA,xB,xC,xD,xE,xF,reduceCtorEq,xH,xI,xJ,xK,xL,xM,xN,xO,h3,b0,b1,b2,b3,b4,b5,b6,b7,b8,b9,b10,b11,b12,b13,b14,b15,b16,b17,b18,b19,b20,wbr]
theorem run77n{s:LU}(h:(fun8.any fun x=>s==x)=false)(h2:(ops21.any fun x=>s==x)=false):evW 77 [.str s] []=oR (.bool false):=by
 have h3:=run154n h h2
 rw [w77 rfl]
 conv=>lhs;arg 2;whnf
 simp +contextual -implicitDefEqProofs (maxSteps:=9^9) only [↓wkA,↓lv77,↓fz77,wuH,↓reduceIte,xA,xB,xC,xD,xE,xF,reduceCtorEq,xH,xI,xJ,xK,xL,xM,xN,xO,h3,wbr]
theorem run98{k:Int}:evW 98 [iA k] []=oR (.bool (isI k)):=by
 rw [w98 rfl]
 conv=>lhs;arg 2;whnf
 simp +contextual -implicitDefEqProofs (maxSteps:=9^9) only [↓wkA,↓lv98,↓fz98,wuH,↓reduceIte,xA,xB,xC,xD,xE,xF,reduceCtorEq,xH,xI,xJ,xK,xL,xM,xN,xO,isI,wbr]
def plainB(a b c:Bool)(l:Int)(s:LU)(n m:Nat):Bool:=(a||l==0)&&((b||(s==[]&&(n:Int)==0))&&(c||(m:Int)==0))
theorem run185fffG:(∀{k l:Int}{s:LU}{ns es:LA},evW 185 [tv k l s ns es,.bool false,.bool false,.bool false] []=oR (.bool (plainB false false false l s ns.length es.length)))∧(∀{k l:Int}{s:LU}{ns es:LA},evW 185 [tv k l s ns es,.bool true,.bool false,.bool false] []=oR (.bool (plainB true false false l s ns.length es.length)))∧(∀{k l:Int}{s:LU}{ns es:LA},evW 185 [tv k l s ns es,.bool false,.bool true,.bool false] []=oR (.bool (plainB false true false l s ns.length es.length)))∧(∀{k l:Int}{s:LU}{ns es:LA},evW 185 [tv k l s ns es,.bool true,.bool false,.bool true] []=oR (.bool (plainB true false true l s ns.length es.length))):=by
 refine⟨?_,?_,?_,?_⟩<;>intros<;>rw [w185 rfl]<;>conv=>lhs;arg 2;whnf
 all_goals simp +contextual -implicitDefEqProofs (maxSteps:=9^9) only [↓wkA,↓lv185,↓fz185,wuH,↓reduceIte,xA,xB,xC,xD,xE,xF,reduceCtorEq,xH,xI,xJ,xK,xL,xM,xN,xO,plainB,wbr]
def run185fff:=@run185fffG.1
def run185tff:=@run185fffG.2.1
def run185ftf:=@run185fffG.2.2.1
def run185tft:=@run185fffG.2.2.2
theorem kn_lib{f:Nat}{args:List AV}{objs:List Obj'}{q:AE×List Obj'}(h:Nat.beq f 14=false)(hq:libK f args objs=some q):kn f args objs=some q:=by
 have e:ae66.f=14:=rfl
 have e1:memo [ae66] f args objs=none:=by simp [memo,e,h]
 unfold kn
 rw [e1,hq]
theorem run335{s t:LU}(h:Nat.blt s.length 4294967281=true):evW 335 [.str s,.str t] []=oR (.bool (contD s t)):=by
 refine ev_le 1 335 _ _ _ ?_
 have e:kn 335 (canVs (ashOf 335) [.str s,.str t]) []=oR (.bool (contD s t)):=by
  have e0:canVs (ashOf 335) [.str s,.str t]=[.str s,.str t]:=by kernel_rfl
  rw [e0]
  refine kn_lib rfl ?_
  unfold libK
  simp only [h]
  rfl
 have e2:rshOf 335=[]:=by kernel_rfl
 unfold ev
 rw [e,e2]
 rfl
theorem run259{s:LU}:evW 259 [.str s,.fn 260 []] []=oR (.bool (s.any fun b=>oddN b.toNat)):=by
 refine ev_le 1 259 _ _ _ ?_
 have e:kn 259 (canVs (ashOf 259) [.str s,.fn 260 []]) []=oR (.bool (s.any fun b=>oddN b.toNat)):=by
  have e0:canVs (ashOf 259) [.str s,.fn 260 []]=[.str s,.fn 260 []]:=by kernel_rfl
  rw [e0]
  exact kn_lib rfl rfl
 have e2:rshOf 259=[]:=by kernel_rfl
 unfold ev
 rw [e,e2]
 rfl
def letB(c:Int):Bool:=(decide (97≤c)&&decide (c≤122))||(decide (65≤c)&&decide (c≤90))
def digB(c:Int):Bool:=decide (48≤c)&&decide (c≤57)
def partB(c:Int):Bool:=letB c||(digB c||c==95)
theorem run309{c:Int}:evW 309 [.int .u8 c] []=oR (.bool (letB c)):=by
 rw [w309 rfl]
 conv=>lhs;arg 2;whnf
 simp +contextual -implicitDefEqProofs (maxSteps:=9^9) only [↓wkA,↓lv309,↓fz309,wuH,↓reduceIte,xA,xB,xC,xD,xE,xF,reduceCtorEq,xH,xI,xJ,xK,xL,xM,xN,xO,letB,wbr]
theorem run265{c:Int}:evW 265 [.int .u8 c] []=oR (.bool (letB c)):=by
 rw [w265 rfl]
 conv=>lhs;arg 2;whnf
 simp +contextual -implicitDefEqProofs (maxSteps:=9^9) only [↓wkA,↓lv265,↓fz265,wuH,↓reduceIte,xA,xB,xC,xD,xE,xF,reduceCtorEq,xH,xI,xJ,xK,xL,xM,xN,xO,letB,wbr]
theorem run336{c:Int}:evW 336 [.int .u8 c] []=oR (.bool (digB c)):=by
 rw [w336 rfl]
 conv=>lhs;arg 2;whnf
 simp +contextual -implicitDefEqProofs (maxSteps:=9^9) only [↓wkA,↓lv336,↓fz336,wuH,↓reduceIte,xA,xB,xC,xD,xE,xF,reduceCtorEq,xH,xI,xJ,xK,xL,xM,xN,xO,digB,wbr]
theorem run337{c:Int}:evW 337 [.int .u8 c] []=oR (.bool (digB c)):=by
 rw [w337 rfl]
 conv=>lhs;arg 2;whnf
 simp +contextual -implicitDefEqProofs (maxSteps:=9^9) only [↓wkA,↓lv337,↓fz337,wuH,↓reduceIte,xA,xB,xC,xD,xE,xF,reduceCtorEq,xH,xI,xJ,xK,xL,xM,xN,xO,digB,wbr]
theorem run311{c:Int}:evW 311 [.int .u8 c] []=oR (.bool (partB c)):=by
 rw [w311 rfl]
 conv=>lhs;arg 2;whnf
 simp +contextual -implicitDefEqProofs (maxSteps:=9^9) only [↓wkA,↓lv311,↓fz311,wuH,↓reduceIte,xA,xB,xC,xD,xE,xF,reduceCtorEq,xH,xI,xJ,xK,xL,xM,xN,xO,run309,run336,partB,wbr]
theorem run338{c:Int}:evW 338 [.int .u8 c] []=oR (.bool (partB c)):=by
 rw [w338 rfl]
 conv=>lhs;arg 2;whnf
 simp +contextual -implicitDefEqProofs (maxSteps:=9^9) only [↓wkA,↓lv338,↓fz338,wuH,↓reduceIte,xA,xB,xC,xD,xE,xF,reduceCtorEq,xH,xI,xJ,xK,xL,xM,xN,xO,run265,run337,partB,wbr]
def wordsS:LU:=[32,112,97,99,107,97,103,101,32,105,115,32,101,110,100,32,109,111,100,117,108,101,32,103,101,110,101,114,105,99,32,112,111,114,116,32,98,101,103,105,110,32,105,110,32,111,117,116,32,118,101,99,32,97,114,114,97,121,32,111,102,32,99,111,110,115,116,32,116,121,112,101,32,115,105,103,110,97,108,32,118,97,114,32,102,117,110,99,116,105,111,110,32,114,101,116,117,114,110,32,117,115,101,32,112,114,111,99,101,115,115,32,97,108,108,32,105,110,115,116,32,102,111,114,32,116,111,32,103,101,110,101,114,97,116,101,32,105,102,32,101,108,115,101,32,116,114,97,110,115,112,111,114,116,32,97,102,116,101,114,32,97,115,115,101,114,116,32,114,101,112,111,114,116,32,116,104,101,110,32,101,108,115,105,102,32,99,97,115,101,32,119,104,101,110,32,111,116,104,101,114,115,32,108,111,111,112,32,119,104,105,108,101,32,119,97,105,116,32,111,110,32,117,110,116,105,108,32,110,117,108,108,32,97,110,100,32,111,114,32,120,111,114,32,110,97,110,100,32,110,111,114,32,120,110,111,114,32,110,111,116,32,109,111,100,32,115,104,108,32,115,104,114,32,100,111,119,110,116,111,32]
theorem run310{s:LU}(h:s.length<1000):evW 310 [.str s] []=oR (.bool (!(s==[])&&(!contD s [32]&&contD wordsS (32::(s++[32]))))):=by
 have h3:=run335 (s:=s) (t:=[32]) (by simpa [Nat.blt_eq] using (by omega:s.length<4294967281))
 have h4:=run335 (s:=wordsS) (t:=32::(s++[32])) (by decide)
 simp only [wordsS] at h4
 have h5:binD cfg.G .add 9 (.str [32]) (.str s)=some (.str (32::s)):=bin_str_add (by simp;omega)
 have h6:binD cfg.G .add 9 (.str (32::s)) (.str [32])=some (.str (32::(s++[32]))):=bin_str_add (by simp;omega)
 rw [w310 rfl]
 conv=>lhs;arg 2;whnf
 simp +contextual -implicitDefEqProofs (maxSteps:=9^9) only [↓wkA,↓lv310,↓fz310,wuH,↓reduceIte,xA,xB,xC,xD,xE,xF,reduceCtorEq,xH,xI,xJ,xK,xL,xM,xN,xO,h3,h4,h5,h6,wordsS,List.append_eq,wbr]
theorem loop261_0{s:LU}(hb:s.length<4611686018427387904){k:KK}{X Y:OO}(h1:∀ fr nx,k .ret ⟨(2,.bool false)::fr,[],nx,[]⟩=X)(h2:∀ fr nx,k (.exit 0) ⟨fr,[],nx,[]⟩=Y) :
  ∀(rest:LU)(i:Nat) ,s.drop i=rest→lpN ⟨32,0,kpOf 261,noTab⟩ (lp Tryz.f261 0) ⟨[(0,.str s),(22,iA s.length),(23,iA i)],[],0,[]⟩ k=br (rest.all fun c=>partB (c.toNat:Int)) Y X
 | [],i,hd=>by
   have hi:=drop_ge hd
   unfold lpN
   conv=>lhs;arg 2;whnf
   simp +contextual -implicitDefEqProofs (maxSteps:=9^9) only [↓wkA,↓lv261,↓fz261,wuA,↓reduceIte,xA,xB,xC,xD,xE,xF,reduceCtorEq,xH,xI,xJ,xK,xL,xM,xN,xO,hi,h1,h2,List.all_nil,wbr]
 | b::rest,i,hd=>by
   have hi:=drop_lt hd
   have hbi:=drop_at hd
   have hd2:=drop_nx hd
   have hw:IntKind.i64.wrap ((i:Int)+1)=((i+1:Nat):Int):=wrap_succ (by simp at hi;omega)
   have ih:=loop261_0 hb h1 h2 rest (i+1) hd2
   unfold lpN
   conv=>lhs;arg 2;whnf
   simp +contextual -implicitDefEqProofs (maxSteps:=9^9) only [↓wkA,↓lv261,↓fz261,wuA,↓reduceIte,xA,xB,xC,xD,xE,xF,reduceCtorEq,xH,xI,xJ,xK,xL,xM,xN,xO,hi,hw,hbi,map_get,lq261_0,h1,h2,List.all_cons,run311,ih,wbr]
def wordP(s:LU):Bool := !(s==[])&&(!contD s [32]&&contD wordsS (32::(s++[32])))
def nameP:LU→Bool
 | []=>false
 | c::r=>decide (((c::r).length:Int)≤40)&&(letB (c.toNat:Int)&&(!wordP (c::r)&&(c::r).all fun c=>partB (c.toNat:Int)))
theorem nameP_cons{c:UInt8}{r:LU}:nameP (c::r)=(decide (((c::r).length:Int)≤40)&&(letB (c.toNat:Int)&&(!wordP (c::r)&&(c::r).all fun c=>partB (c.toNat:Int)))):=rfl
theorem cons_ne{c:UInt8}{r:LU}:((c::r)==([]:LU))=false:=rfl
theorem run261e:evW 261 [.str []] []=oR (.bool false):=ev_le 20 261 _ _ _ (by kernel_rfl)
theorem run261l{c:UInt8}{r:LU}(h:decide ((40:Int)<((c::r).length:Nat))=true):evW 261 [.str (c::r)] []=oR (.bool false):=by
 simp only [List.length_cons] at h
 rw [w261 rfl]
 conv=>lhs;arg 2;whnf
 simp +contextual -implicitDefEqProofs (maxSteps:=9^9) only [↓wkA,↓lv261,↓fz261,wuH,↓reduceIte,xA,xB,xC,xD,xE,xF,reduceCtorEq,xH,xI,xJ,xK,xL,xM,xN,xO,h,cons_ne,wbr]
theorem run261c{c:UInt8}{r:LU}(h:decide ((40:Int)<((c::r).length:Nat))=false)(h2:letB (c.toNat:Int)=false):evW 261 [.str (c::r)] []=oR (.bool false):=by
 simp only [List.length_cons] at h
 rw [w261 rfl]
 conv=>lhs;arg 2;whnf
 simp +contextual -implicitDefEqProofs (maxSteps:=9^9) only [↓wkA,↓lv261,↓fz261,wuH,↓reduceIte,xA,xB,xC,xD,xE,xF,reduceCtorEq,xH,xI,xJ,xK,xL,xM,xN,xO,h,h2,cons_ne,run309,wbr]
theorem run261w{c:UInt8}{r:LU}(h:decide ((40:Int)<((c::r).length:Nat))=false)(h2:letB (c.toNat:Int)=true)(h3:evW 310 [.str (c::r)] []=oR (.bool true)):evW 261 [.str (c::r)] []=oR (.bool false):=by
 simp only [List.length_cons] at h
 rw [w261 rfl]
 conv=>lhs;arg 2;whnf
 simp +contextual -implicitDefEqProofs (maxSteps:=9^9) only [↓wkA,↓lv261,↓fz261,wuH,↓reduceIte,xA,xB,xC,xD,xE,xF,reduceCtorEq,xH,xI,xJ,xK,xL,xM,xN,xO,h,h2,cons_ne,run309,h3,wbr]
theorem run261a{c:UInt8}{r:LU}(h:decide ((40:Int)<((c::r).length:Nat))=false)(h2:letB (c.toNat:Int)=true)(h3:evW 310 [.str (c::r)] []=oR (.bool false)):evW 261 [.str (c::r)] []=oR (.bool ((c::r).all fun c=>partB (c.toNat:Int))):=by
 have hb:(c::r).length<4611686018427387904:=by simp at h;simp;omega
 simp only [List.length_cons] at h
 rw [w261 rfl]
 conv=>lhs;arg 2;whnf
 simp +contextual -implicitDefEqProofs (maxSteps:=9^9) only [↓wkA,↓lv261,↓fz261,wuA,↓reduceIte,xA,xB,xC,xD,xE,xF,reduceCtorEq,xH,xI,xJ,xK,xL,xM,xN,xO,h,h2,cons_ne,run309,h3,wbr]
 refine(lpX_code (c':=lp Tryz.f261 0) (by kernel_rfl)).trans ?_
 rw [lq261_0]
 try simp +contextual -implicitDefEqProofs (maxSteps:=9^9) only [↓wkA,↓lv261,↓fz261,wuA,↓reduceIte,xA,xB,xC,xD,xE,xF,reduceCtorEq,xH,xI,xJ,xK,xL,xM,xN,xO,h,h2,cons_ne,run309,h3,wbr]
 refine(loop261_0 (X:=oR (.bool false)) (Y:=oR (.bool true)) hb ?_ ?_ (c::r) 0 rfl).trans ?_
 ·intro fr nx
  simp +contextual -implicitDefEqProofs (maxSteps:=9^9) only [↓wkA,↓lv261,↓fz261,wuA,↓reduceIte,xA,xB,xC,xD,xE,xF,reduceCtorEq,xH,xI,xJ,xK,xL,xM,xN,xO,wbr]
 ·intro fr nx
  simp +contextual -implicitDefEqProofs (maxSteps:=9^9) only [↓wkA,↓lv261,↓fz261,wuA,↓reduceIte,xA,xB,xC,xD,xE,xF,reduceCtorEq,xH,xI,xJ,xK,xL,xM,xN,xO,wbr]
 cases (c::r).all fun c=>partB (c.toNat:Int)<;>rfl
theorem run261{s:LU}:evW 261 [.str s] []=oR (.bool (nameP s)):=by
 cases s with
 | nil=>exact run261e
 | cons c r =>
   have hd:decide ((40:Int)<((c::r).length:Nat)) = !decide (((c::r).length:Int)≤40):=by
    by_cases q:((c::r).length:Int)≤40
    ·rw [decide_eq_true q,decide_eq_false (by omega)]
     rfl
    ·rw [decide_eq_false q,decide_eq_true (by omega)]
     rfl
   rw [nameP_cons]
   cases h:decide (((c::r).length:Int)≤40) with
   | false =>
     rw [h] at hd
     exact run261l hd
   | true =>
     rw [h] at hd
     have hl:(c::r).length<1000:=by have:=of_decide_eq_true h;omega
     have hw:=run310 hl
     change _=some (AE.ret (.bool (wordP (c::r))),[]) at hw
     cases h2:letB (c.toNat:Int) with
     | false=>exact run261c hd h2
     | true =>
       cases h3:wordP (c::r) with
       | true =>
         rw [h3] at hw
         exact run261w hd h2 hw
       | false =>
         rw [h3] at hw
         exact run261a hd h2 hw
end Go.Proofs.YtdhcgankmhpgeaaGreat.M
