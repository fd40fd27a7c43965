import Derived.Test.YtdhcgankmhpgeaaGreatB33
set_option linter.all false
namespace Go.Proofs.YtdhcgankmhpgeaaGreat.M
open Go
open Nat renaming reduceEqDiff → xA, reduceLT → xB, reduceAdd → xC, reduceMul → xD, reduceSub → xE, reduceDiv → xF, reduceLeDiff → xN
open Int renaming reduceAdd → xH, reduceLE → xI, reduceLT → xJ, reduceToNat → xK, reduceEq → xL, reduceBEq → xM
open UInt8 renaming reduceToNat → xO
set_option maxRecDepth 100000
set_option maxHeartbeats 4000000
attribute [local congr] br_congr ob2_congr cnd_congr gdK_congr ob_congr clK_congr finK_congr reg_congr pkK_congr kTK_congr dlT_congr gck_congr iff2_congr sel_congr dPn_congr apJ_congr nmK_congr kTo_congr fzO_congr rcK_congr lvB_congr crK_congr cdB_congr
theorem eqFrom_refl:∀ xs:LI,eqFrom xs xs=true
 | []=>rfl
 | x::r=>by simp [eqFrom,eqFrom_refl r]
theorem run17r{k n:Int}{bs:LI}(h:bs.length≤64):evW 17 [vl k n (bitsA bs),vl k n (bitsA bs)] []=oR (.bool true) :=
 run17a (vs1:=[]) (vs2:=[]) (p:=fun _ _=>true) (by omega) (fun v w hv=>by cases hv) (by simp) (by simp) (by simp) (by unfold eqBits;rw [eqFrom_refl];simp) rfl
theorem loop5{s:LU}{A:LA}{ts:List TT}(hb:ts.length<100000){k:KK}{X Y:OO}
  (h1:∀ fr hp nx,k .ret ⟨(6,.bool true)::fr,hp,nx,[]⟩=X) (h2:ts.all smallT=true→∀ fr,look 0 fr=some (.str s)→look 1 fr=some (.sl 4 A)→look 2 fr=some (.sl 5 (ts.map tC))→k (.exit 0) ⟨fr,[],64,[]⟩=Y) :
  ∀(rest:List TT)(i:Nat),ts.drop i=rest→(ts.take i).all smallT=true→lpN ⟨72,0,kpOf 5,noTab⟩ (lp Tryz.f5 0) ⟨[(0,.str s),(1,.sl 4 A),(2,.sl 5 (ts.map tC)),(29,.sl 5 (ts.map tC)),(30,iA ts.length),(31,iA i)],[],0,[]⟩ k=br (rest.all smallT) Y X
 | [],i,hd,ha=>by
   have ha2:ts.all smallT=true:=by
    rw [List.take_of_length_le (by have:=congrArg List.length hd;simp at this;omega)] at ha
    exact ha
   have h3:=h2 ha2
   have hi:=drop_ge hd
   rw [List.all_nil,br_true]
   unfold lpN
   conv=>lhs;arg 2;whnf
   simp +contextual -implicitDefEqProofs (maxSteps:=9^9) only [↓wkA,↓lv5,↓fz5,wuH,↓reduceIte,xA,xB,xC,xD,xE,xF,reduceCtorEq,xH,xI,xJ,xK,xL,xM,xN,xO,hi,h3,wbr]
 | b::rest,i,hd,ha=>by
   have hi:=drop_lt hd
   have hbi:=drop_at hd
   have hw:IntKind.i64.wrap ((i:Int)+1)=((i+1:Nat):Int):=wrap_succ (by simp at hi;omega)
   have h22:=run22T b
   rw [List.all_cons]
   obtain⟨kb,lb,sb,Lb,eb⟩:=b
   simp only [tA,tC_mk] at h22
   have hc2:evW 22 [.agg [iA kb,iA lb,.str sb,.sl 1 (Lb.map sC),.sl 5 (eb.map tC)],.nils] []=oR (.bool (smallT (.mk kb lb sb Lb eb))):=evW_canon.trans ((by kernel_rfl:evW 22 (canVs (ashOf 22) [.agg [iA kb,iA lb,.str sb,.sl 1 (Lb.map sC),.sl 5 (eb.map tC)],.nils]) []=evW 22 [.agg [iA kb,iA lb,.str sb,.sl 1 (Lb.map sC),.sl 5 (eb.map tC)],.sl 4 []] []).trans h22)
   cases q:smallT (.mk kb lb sb Lb eb)
   ·rw [q] at hc2
    rw [Bool.false_and,br_false]
    unfold lpN
    conv=>lhs;arg 2;whnf
    simp +contextual -implicitDefEqProofs (maxSteps:=9^9) only [↓wkA,↓lv5,↓fz5,wuH,↓reduceIte,xA,xB,xC,xD,xE,xF,reduceCtorEq,xH,xI,xJ,xK,xL,xM,xN,xO,hi,hbi,map_get,tC_mk,hc2,h1,evW_awake,wbr]
   ·rw [q] at hc2
    rw [Bool.true_and]
    have ih:=loop5 (A:=A) hb h1 h2 rest (i+1) (drop_nx hd) (by rw [List.take_succ,List.all_append,ha,hbi];simp [q])
    unfold lpN
    conv=>lhs;arg 2;whnf
    simp +contextual -implicitDefEqProofs (maxSteps:=9^9) only [↓wkA,↓lv5,↓fz5,wuH,↓reduceIte,xA,xB,xC,xD,xE,xF,reduceCtorEq,xH,xI,xJ,xK,xL,xM,xN,xO,hi,hbi,map_get,tC_mk,hc2,hw,ih,lq5_0,wbr]
theorem run5aG:(∀{s:LU}{vs:List VT}{ts:List TT}(q1:decide ((5:Int)<(ts.length:Nat))=true),evW 5 [.str s,.sl 4 (vs.map vC),.sl 5 (ts.map tC)] []=oR (.bool true))∧(∀{s:LU}{vs:List VT}{ts:List TT}(q1:decide ((5:Int)<(ts.length:Nat))=false)(q2:decide ((5:Int)<(vs.length:Nat))=true),evW 5 [.str s,.sl 4 (vs.map vC),.sl 5 (ts.map tC)] []=oR (.bool true))∧(∀{s:LU}{vs:List VT}{ts:List TT}(q1:decide ((5:Int)<(ts.length:Nat))=false)(q2:decide ((5:Int)<(vs.length:Nat))=false)(h19:evW 19 [.sl 4 (vs.map vC)] []=oR (.bool false)),evW 5 [.str s,.sl 4 (vs.map vC),.sl 5 (ts.map tC)] []=oR (.bool true)):=by
 refine⟨?_,?_,?_⟩<;>intros<;>rw [w5 rfl]<;>conv=>lhs;arg 2;whnf
 all_goals simp +contextual -implicitDefEqProofs (maxSteps:=9^9) only [↓wkA,↓lv5,↓fz5,wuH,↓reduceIte,xA,xB,xC,xD,xE,xF,reduceCtorEq,xH,xI,xJ,xK,xL,xM,xN,xO,evW_awake,List.length_map, *,wbr]
def run5a:=@run5aG.1
def run5b:=@run5aG.2.1
def run5c:=@run5aG.2.2
theorem run5d{s:LU}{vs:List VT}{ts:List TT}(q1:decide ((5:Int)<(ts.length:Nat))=false)(q2:decide ((5:Int)<(vs.length:Nat))=false)(h19:evW 19 [.sl 4 (vs.map vC)] []=oR (.bool true))(hs:ts.all smallT=true→Agr [.str s,.sl 4 (vs.map vC),.sl 5 (ts.map tC)]):evW 5 [.str s,.sl 4 (vs.map vC),.sl 5 (ts.map tC)] []=oR (.bool true):=by
 have hb:=of_decide_eq_false q1
 rw [w5 rfl]
 conv=>lhs;arg 2;whnf
 simp +contextual -implicitDefEqProofs (maxSteps:=9^9) only [↓wkA,↓lv5,↓fz5,wuH,↓reduceIte,xA,xB,xC,xD,xE,xF,reduceCtorEq,xH,xI,xJ,xK,xL,xM,xN,xO,q1,q2,h19,List.length_map,wbr]
 refine(lpX_code (c':=lp Tryz.f5 0) (by kernel_rfl)).trans ?_
 rw [lq5_0]
 try simp +contextual -implicitDefEqProofs (maxSteps:=9^9) only [↓wkA,↓lv5,↓fz5,wuH,↓reduceIte,xA,xB,xC,xD,xE,xF,reduceCtorEq,xH,xI,xJ,xK,xL,xM,xN,xO,q1,q2,h19,List.length_map,wbr]
 refine(loop5 (A:=vs.map vC) (by omega) (X:=oR (.bool true)) (Y:=oR (.bool true)) ?_ ?_ ts 0 rfl rfl).trans ?_
 ·intro fr hp nx
  simp +contextual -implicitDefEqProofs (maxSteps:=9^9) only [↓wkA,↓lv5,↓fz5,wuH,↓reduceIte,xA,xB,xC,xD,xE,xF,reduceCtorEq,xH,xI,xJ,xK,xL,xM,xN,xO,q1,q2,h19,List.length_map,wbr]
 ·intro ha fr l0 l1 l2
  obtain⟨k,n,bs,kt,lt,e,hl,h23,h24⟩:=hs ha
  have h17:=run17r (k:=k) (n:=n) hl
  have h25:=run25 (k:=kt) (l:=lt)
  simp only [bitsA] at h23 h24 h17
  simp +contextual -implicitDefEqProofs (maxSteps:=9^9) only [↓wkA,↓lv5,↓fz5,wuH,↓reduceIte,xA,xB,xC,xD,xE,xF,reduceCtorEq,xH,xI,xJ,xK,xL,xM,xN,xO,l0,l1,l2,h23,h24,h17,h25,evW_awake,q1,q2,h19,List.length_map,wbr]
 ·cases ts.all smallT<;>rfl
end Go.Proofs.YtdhcgankmhpgeaaGreat.M
namespace Go.Proofs.YtdhcgankmhpgeaaGreat.M
open Go
set_option maxRecDepth 100000
set_option maxHeartbeats 4000000
attribute [local congr] br_congr ob2_congr cnd_congr gdK_congr ob_congr clK_congr finK_congr reg_congr pkK_congr kTK_congr dlT_congr gck_congr iff2_congr sel_congr dPn_congr apJ_congr nmK_congr kTo_congr fzO_congr rcK_congr lvB_congr crK_congr cdB_congr
def vNn:VT→Prop
 | .mk _ _ bs ls=>(∀ b∈bs,(0:Int)≤b)∧∀ v∈ls,vNn v
theorem partsL_all:∀(ls:List VT)(z:Int),0≤partsL ls z→(ls.length:Int)+partsL ls z≤z∧∀ v∈ls,∃ y,y≤z∧0≤partsV v y
 | [],z,h=>by
   rw [partsL] at h ⊢
   exact⟨by simp,fun v hv=>by cases hv⟩
 | v::r,z,h=>by
   rw [partsL_cons] at h ⊢
   split at h
   ·omega
   ·rename_i hz
    rw [if_neg hz]
    have ih:=partsL_all r (partsV v z) h
    have h1:=partsV_le v z
    have h2:=partsL_le r (partsV v z)
    refine⟨by rw [List.length_cons];omega,fun u hu=>?_⟩
    rcases List.mem_cons.1 hu with rfl|hu
    ·exact⟨z,Int.le_refl _,by omega⟩
    ·obtain⟨y,y1,y2⟩:=ih.2 u hu
     exact⟨y,by omega,y2⟩
theorem vSm_of:∀(v:VT)(z:Int),z≤9000→0≤partsV v z→vNn v→vSm v
 | .mk k n bs ls,z,hz,h,hn=>by
   rw [partsV] at h
   rw [vNn] at hn
   have h1:=partsL_all ls _ h
   rw [vSm]
   refine⟨by omega,by omega,hn.1,fun v hv=>?_⟩
   obtain⟨y,y1,y2⟩:=h1.2 v hv
   exact vSm_of v y (by omega) y2 (hn.2 v hv)
theorem tSm_of:∀(t:TT),smallT t=true→tSm t
 | .mk k l s ns es,h=>by
   rw [smallT_mk] at h
   simp only [Bool.and_eq_true,Bool.not_eq_true',decide_eq_false_iff_not,List.any_eq_false,Bool.or_eq_true,decide_eq_true_eq,not_or,Bool.not_eq_true,Bool.not_eq_false',Bool.not_eq_false] at h
   obtain⟨h1,h2,h3,_,h5⟩:=h
   rw [tSm]
   exact⟨by omega,by omega,by omega,fun e he=>tSm_of e (h5 e he).2⟩
theorem run5{s:LU}{vs:List VT}{ts:List TT}(hv:∀ v∈vs,vOk v)(hn:∀ v∈vs,vNn v):evW 5 [.str s,.sl 4 (vs.map vC),.sl 5 (ts.map tC)] []=oR (.bool true):=by
 cases q1:decide ((5:Int)<(ts.length:Nat)) with
 | true=>exact run5a q1
 | false =>
   cases q2:decide ((5:Int)<(vs.length:Nat)) with
   | true=>exact run5b q1 q2
   | false =>
     have l1:=of_decide_eq_false q1
     have l2:=of_decide_eq_false q2
     have h19:=run19y (vs:=vs) (decide_eq_true (by omega)) hv
     cases c:decide (partsL vs 8999<0) with
     | true=>rw [c] at h19;exact run5c q1 q2 h19
     | false =>
       rw [c] at h19
       refine run5d q1 q2 h19 fun ha=>agr_all (fun v hv=>?_) (fun t ht=>tSm_of t (List.all_eq_true.1 ha t ht)) (by omega)
       obtain⟨y,y1,y2⟩:=(partsL_all vs 8999 (by have:=of_decide_eq_false c;omega)).2 v hv
       exact vSm_of v y (by omega) y2 (hn v hv)
end Go.Proofs.YtdhcgankmhpgeaaGreat.M
namespace Go.Proofs.YtdhcgankmhpgeaaGreat.M
open Go Go.RowKit
theorem u8_pos{n:Int}(h:(Lit.int .u8 n).wf=true):0≤n:=by
 simp [Lit.wf,IntKind.min,IntKind.max,IntKind.signed,IntKind.bits] at h
 omega
section
variable {H : Type} {enc : TypeId × Value → H} {w : World} {base : Nat} {spare : Nat → Bool} {held : Bool}
theorem open_bytes2{P:Program}{t:TypeId}{fuel:Nat}{cs:List Value}{x:DataW H×List MemPlace}(ht:P.underlying t=some (.slice 162))(hi:P.underlying 162=some (.int .u8))(hc:P.cellsOf 162=1)
  (h:DataW.trod enc P w base spare held fuel t cs=some x):∃ bs:LI,RepL w (old w) nopl [rowB bs] cs∧bs.length≤maxLen∧(∀ v∈cs,v.oneCell'=true)∧∀ b∈bs,(0:Int)≤b:=by
 obtain⟨es,h1,h2,h3,h4⟩:=open_row (p:=fun xs=>∃ b,xs=[.int .u8 b]∧0≤b) ht hc (by omega) h fun n cs x _ _ hx=>by
  obtain⟨b,rfl,_,hb⟩:=DataW.trod_int hi hx
  exact⟨_,⟨b,rfl,u8_pos hb⟩,by simp [RepL,Rep],by simp [Value.oneCell']⟩
 obtain⟨bs,rfl,hb⟩:=map_of2 h4
 exact⟨bs,h1,by simpa using h2,h3,hb⟩
set_option maxRecDepth 100000 in
theorem open_val2:∀(n:Nat){cs:List Value}{x:DataW H×List MemPlace},DataW.trod enc Tryz.prog w base spare held n 33 cs=some x→∃ V,(vOk V∧vNn V)∧RepL w (old w) nopl (vC V) cs∧∀ v∈cs,v.oneCell'=true
 | n,cs,x,h=>by
   obtain⟨xs,m,rfl,rfl,hl,hlen,hf⟩:=DataW.trod_struct Tryz.underlying33 h
   rw [c33] at hl
   match cs,hl with
   | [a,b,c,d],_ =>
     match xs,hlen with
     | [xa,xb,xc,xd],_ =>
       have f0:=hf 0 _ rfl
       have f1:=hf 1 _ rfl
       have f2:=hf 2 _ rfl
       have f3:=hf 3 _ rfl
       simp only [c31,c3,c30,c23,List.drop_zero,List.drop_succ_cons,List.take_succ_cons,List.take_zero,List.getElem?_cons_zero,List.getElem?_cons_succ] at f0 f1 f2 f3
       obtain⟨k,e0,_,_⟩:=DataW.trod_int Tryz.underlying31 f0
       obtain⟨i,e1,_,_⟩:=DataW.trod_int Tryz.underlying3 f1
       obtain⟨bs,r2,l2,o2,p2⟩:=open_bytes2 Tryz.underlying30 Tryz.underlying162 c162 f2
       obtain⟨es,r3,l3,o3,q3⟩:=open_row (p:=fun xs=>∃ V,xs=vC V∧vOk V∧vNn V) Tryz.underlying23 c33 (by omega) f3 fun n' cs' x' hn _ hx=>by
        obtain⟨V,v1,v2,v3⟩:=open_val2 n' hx
        exact⟨_,⟨V,rfl,v1⟩,v2,v3⟩
       obtain⟨ls,rfl,hls⟩:=map_of2 q3
       obtain rfl:=(List.cons.inj e0).1
       obtain rfl:=(List.cons.inj e1).1
       refine⟨.mk k i bs ls,by rw [vOk,vNn];exact⟨⟨l2,by simpa using l3,fun v hv=>(hls v hv).1⟩,p2,fun v hv=>(hls v hv).2⟩,?_,?_⟩
       ·rw [vC]
        exact repL_apd (xs:=[.int .i64 k,.int .i64 i]) (us:=[.int .i64 k,.int .i64 i]) (by simp [RepL,Rep]) (repL_apd (xs:=[rowB bs]) (us:=[c]) r2 r3)
       ·intro v hv
        simp only [List.mem_cons,List.not_mem_nil,or_false] at hv
        rcases hv with rfl|rfl|rfl|rfl
        ·rfl
        ·rfl
        ·exact o2 _ (List.mem_singleton.2 rfl)
        ·exact o3 _ (List.mem_singleton.2 rfl)
termination_by n=>n
theorem rep_vals{fuel l c:Nat}{a:Option Addr}{x:DataW H×List MemPlace}(hf:DataW.trod enc Tryz.prog w base spare held fuel 23 (Value.cells (.slice a l c)).toList=some x):∃ vs:List VT,(∀ v∈vs,vOk v∧vNn v)∧Rep w (old w) nopl (.sl 4 (vs.map vC)) (.slice a l c):=by
 obtain⟨es,h1,_,_,h4⟩:=open_row (p:=fun xs=>∃ V,xs=vC V∧vOk V∧vNn V) Tryz.underlying23 c33 (by omega) hf fun n' cs' x' hn _ hx=>by
  obtain⟨V,v1,v2,v3⟩:=open_val2 n' hx
  exact⟨_,⟨V,rfl,v1⟩,v2,v3⟩
 obtain⟨vs,rfl,hv⟩:=map_of2 h4
 simp only [RepL] at h1
 obtain⟨v,r,e,h1,rfl⟩:=h1
 simp [Value.cells] at e
 subst e
 exact⟨vs,hv,h1⟩
theorem rep_types{fuel l c:Nat}{a:Option Addr}{x:DataW H×List MemPlace}(hf:DataW.trod enc Tryz.prog w base spare held fuel 36 (Value.cells (.slice a l c)).toList=some x):∃ ts:List TT,Rep w (old w) nopl (.sl 5 (ts.map tC)) (.slice a l c):=by
 obtain⟨es,h1,_,_,h4⟩:=open_row (p:=fun xs=>∃ V,xs=tC V) Tryz.underlying36 c38 (by omega) hf fun n' cs' x' hn _ hx=>by
  obtain⟨V,v1,v2,v3⟩:=open_type n' hx
  exact⟨_,⟨V,rfl⟩,v2,v3⟩
 obtain⟨ts,rfl⟩:=map_of h4
 simp only [RepL] at h1
 obtain⟨v,r,e,h1,rfl⟩:=h1
 simp [Value.cells] at e
 subst e
 exact⟨ts,h1⟩
end
theorem gv_of{w:World}{m:Int}(h:w.cell? ⟨0,0,none⟩=some (.int .i64 m)):GV w (old w):=⟨(cell_home h).2,m,h⟩
theorem staticOps_walk(w:World)(hg:GV w (old w))(s:ByteArray){v1 v2:Value}{vs:List VT}{ts:List TT}(hv:∀ v∈vs,vOk v∧vNn v)(h1:Rep w (old w) nopl (.sl 4 (vs.map vC)) v1)(h2:Rep w (old w) nopl (.sl 5 (ts.map tC)) v2) :
  Calls Tryz.prog 5 #[.string s,v1,v2] w fun e w'=>e = .returned (.bool true)∧Below w.heap.size w w':=by
 refine law_of_runs (evW_runs.1 (run5 (s:=s.data.toList) (vs:=vs) (ts:=ts) (fun v h=>(hv v h).1) (fun v h=>(hv v h).2))) hg (vs:=[.string s,v1,v2]) ?_
 simp only [RepL]
 refine⟨_,_,rfl,?_,_,_,rfl,h1,_,_,rfl,h2,rfl⟩
 simp only [Rep]
 exact⟨s,rfl,rfl⟩
end Go.Proofs.YtdhcgankmhpgeaaGreat.M
