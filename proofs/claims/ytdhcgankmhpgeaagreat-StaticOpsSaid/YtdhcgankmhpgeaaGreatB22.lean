import Derived.Test.YtdhcgankmhpgeaaGreatB21
set_option linter.all false
namespace Go.Proofs.YtdhcgankmhpgeaaGreat.M
open Go
open Nat renaming reduceEqDiff → xA, reduceLT → xB, reduceAdd → xC, reduceMul → xD, reduceSub → xE, reduceDiv → xF, reduceLeDiff → xN
open Int renaming reduceAdd → xH, reduceLE → xI, reduceLT → xJ, reduceToNat → xK, reduceEq → xL, reduceBEq → xM
open UInt8 renaming reduceToNat → xO
set_option maxRecDepth 100000
set_option maxHeartbeats 4000000
attribute [local congr] br_congr ob2_congr cnd_congr gdK_congr ob_congr clK_congr finK_congr reg_congr pkK_congr kTK_congr dlT_congr gck_congr iff2_congr sel_congr dPn_congr apJ_congr nmK_congr kTo_congr fzO_congr rcK_congr lvB_congr crK_congr cdB_congr
def bitsR:Nat→Int→LI
 | 0,_=>[]
 | r+1,k=>(k%2)::bitsR r (k / 2)
theorem bitsR_succ{r:Nat}{z:Int}:bitsR (r+1) z=(z%2)::bitsR r (z / 2):=rfl
theorem tmod2(z:Int):(z.tmod 2+2).tmod 2=z%2 ∧ -1≤z.tmod 2∧z.tmod 2≤1:=by
 by_cases h:0≤z
 ·rw [Int.tmod_eq_emod_of_nonneg h,Int.tmod_eq_emod_of_nonneg (by omega)]
  omega
 ·obtain⟨w,rfl⟩:∃ w,z = -w:=⟨-z,by omega⟩
  rw [Int.neg_tmod,Int.tmod_eq_emod_of_nonneg (a:=w) (by omega),Int.tmod_eq_emod_of_nonneg (by omega)]
  omega
theorem tdiv2(z:Int):(z-z%2).tdiv 2=z / 2:=by
 by_cases h:0≤z-z%2
 ·rw [Int.tdiv_eq_ediv_of_nonneg h]
  omega
 ·obtain⟨w,hw⟩:∃ w,z-z%2 = -w:=⟨-(z-z%2),by omega⟩
  rw [hw,Int.neg_tdiv,Int.tdiv_eq_ediv_of_nonneg (by omega)]
  omega
theorem loop255{n:Nat}(hb:n≤100000){k:KK}{X:LI→OO}
  (h2:∀(xs:LI) fr nx,xs.length=n→1≤n→look 5 fr=some (.row 0 0 n)→k (.exit 0) ⟨fr,[(0,.arr 162 1 (xs.map fun b=>[.int .u8 b]))],nx,[]⟩=X xs) :
  ∀(r i:Nat)(z:Int)(xs:LI),-9223372036854775808≤z∧z≤9223372036854775807→i+r=n→xs.length=i→1≤i→lpN ⟨25,0,kpOf 255,noTab⟩ (lp Tryz.f255 0) ⟨[(0,iA z),(5,.row 0 0 i),(7,iA n),(8,iA i)],[(0,.arr 162 1 (xs.map fun b=>[.int .u8 b]))],1,[]⟩ k=X (xs++bitsR r z)
 | 0,i,z,xs,hz,hr,hx,h1=>by
   have hi:decide ((i:Int)<(n:Nat))=false:=by simp;omega
   have he:i=n:=by omega
   subst he
   have h3:=fun fr nx=>h2 xs fr nx hx h1
   rw [bitsR,List.append_nil]
   unfold lpN
   conv=>lhs;arg 2;whnf
   simp +contextual -implicitDefEqProofs (maxSteps:=9^9) only [↓wkA,↓lv255,↓fz255,wuH,↓reduceIte,xA,xB,xC,xD,xE,xF,reduceCtorEq,xH,xI,xJ,xK,xL,xM,xN,xO,hi,h3,wbr]
 | r+1,i,z,xs,hz,hr,hx,h1=>by
   have hi:decide ((i:Int)<(n:Nat))=true:=by simp;omega
   have hw:IntKind.i64.wrap ((i:Int)+1)=((i+1:Nat):Int):=wrap_succ (by omega)
   have hlx:(xs.map fun b=>[AV.int .u8 b]).length=i:=by rw [List.length_map];exact hx
   have htk:List.take i (xs.map fun b=>[AV.int .u8 b])=xs.map fun b=>[AV.int .u8 b]:=List.take_of_length_le (by omega)
   have hms:decide (i+1≤most)=true:=by unfold most;simp;omega
   rw [bitsR_succ]
   have t2:=tmod2 z
   have hr1:binD cfg.G .rem 3 (iA z) (iA 2)=some (iA (z.tmod 2)):=bin_rem rfl
   have hw2:IntKind.i64.wrap (z.tmod 2+2)=z.tmod 2+2:=wrap_i64 (by omega) (by omega)
   have hr2:binD cfg.G .rem 3 (iA (z.tmod 2+2)) (iA 2)=some (iA (z%2)):=(bin_rem rfl).trans (by rw [t2.1])
   have hu8:IntKind.u8.wrap (z%2)=z%2:=by simp [IntKind.wrap,IntKind.bits,IntKind.signed];omega
   have hq1:IntKind.i64.wrap (z-z%2)=z-z%2:=wrap_i64 (by omega) (by omega)
   have hq2:binD cfg.G .quo 3 (iA (z-z%2)) (iA 2)=some (iA (z / 2)):=(bin_quo rfl).trans (by rw [tdiv2,wrap_i64 (by omega) (by omega)])
   have ih:=loop255 hb h2 r (i+1) (z / 2) (xs++[z%2]) (by omega) (by omega) (by simp;omega) (by omega)
   rw [List.map_append,List.append_assoc] at ih
   simp only [List.map_cons,List.map_nil] at ih
   unfold lpN
   conv=>lhs;arg 2;whnf
   simp +contextual -implicitDefEqProofs (maxSteps:=9^9) only [↓wkA,↓lv255,↓fz255,wuH,↓reduceIte,xA,xB,xC,xD,xE,xF,reduceCtorEq,xH,xI,xJ,xK,xL,xM,xN,xO,hi,hw,hlx,htk,hms,hr1,hw2,hr2,hu8,hq1,hq2,ih,lq255_0,List.set_cons_zero,take1,keysE_app,wbr]
theorem first255{n:Nat}{z:Int}(hz : -9223372036854775808≤z∧z≤9223372036854775807)(h1:1≤n)(hb:n≤100000){k:KK}:lpN ⟨25,0,kpOf 255,noTab⟩ (lp Tryz.f255 0) ⟨[(0,iA z),(5,.nils),(7,iA n),(8,iA 0)],[],0,[]⟩ k=lpN ⟨25,0,kpOf 255,noTab⟩ (lp Tryz.f255 0) ⟨[(0,iA (z / 2)),(5,.row 0 0 1),(7,iA n),(8,iA 1)],[(0,.arr 162 1 [[.int .u8 (z%2)]])],1,[]⟩ k:=by
 have hi:decide ((0:Int)<(n:Nat))=true:=by simp;omega
 have hms:decide (1≤most)=true:=by decide
 have hw1:IntKind.i64.wrap ((0:Int)+1)=1:=by decide
 have t2:=tmod2 z
 have hr1:binD cfg.G .rem 3 (iA z) (iA 2)=some (iA (z.tmod 2)):=bin_rem rfl
 have hw2:IntKind.i64.wrap (z.tmod 2+2)=z.tmod 2+2:=wrap_i64 (by omega) (by omega)
 have hr2:binD cfg.G .rem 3 (iA (z.tmod 2+2)) (iA 2)=some (iA (z%2)):=(bin_rem rfl).trans (by rw [t2.1])
 have hu8:IntKind.u8.wrap (z%2)=z%2:=by simp [IntKind.wrap,IntKind.bits,IntKind.signed];omega
 have hq1:IntKind.i64.wrap (z-z%2)=z-z%2:=wrap_i64 (by omega) (by omega)
 have hq2:binD cfg.G .quo 3 (iA (z-z%2)) (iA 2)=some (iA (z / 2)):=(bin_quo rfl).trans (by rw [tdiv2,wrap_i64 (by omega) (by omega)])
 conv=>lhs;unfold lpN;arg 2;whnf
 conv =>
  lhs
  simp +contextual -implicitDefEqProofs (maxSteps:=9^9) only [↓wkA,↓lv255,↓fz255,wuH,↓reduceIte,xA,xB,xC,xD,xE,xF,reduceCtorEq,xH,xI,xJ,xK,xL,xM,xN,xO,hi,hw1,hms,hr1,hw2,hr2,hu8,hq1,hq2,lq255_0,List.set_cons_zero,take1,wbr]
theorem run255{n:Nat}{z:Int}(hz : -9223372036854775808≤z∧z≤9223372036854775807)(h1:1≤n)(hb:n≤100000):evW 255 [iA z,iA n] []=oR (bitsA (bitsR n z)):=by
 rw [w255 rfl]
 conv=>lhs;arg 2;whnf
 simp +contextual -implicitDefEqProofs (maxSteps:=9^9) only [↓wkA,↓lv255,↓fz255,wuH,↓reduceIte,xA,xB,xC,xD,xE,xF,reduceCtorEq,xH,xI,xJ,xK,xL,xM,xN,xO,wbr]
 refine(lpX_code (c':=lp Tryz.f255 0) (by kernel_rfl)).trans ?_
 rw [lq255_0]
 try simp +contextual -implicitDefEqProofs (maxSteps:=9^9) only [↓wkA,↓lv255,↓fz255,wuH,↓reduceIte,xA,xB,xC,xD,xE,xF,reduceCtorEq,xH,xI,xJ,xK,xL,xM,xN,xO,wbr]
 refine(first255 hz h1 hb).trans ?_
 refine(loop255 (n:=n) (X:=fun xs=>oR (bitsA xs)) hb ?_ (n-1) 1 (z / 2) [z%2] (by omega) (by omega) rfl (Nat.le_refl _)).trans ?_
 ·intro xs fr nx hx _ hl
  have hd:decide (n≤xs.length)=true:=by simp;omega
  have htk:List.take n (xs.map fun b=>[AV.int .u8 b])=xs.map fun b=>[AV.int .u8 b]:=List.take_of_length_le (by rw [List.length_map];omega)
  simp +contextual -implicitDefEqProofs (maxSteps:=9^9) only [↓wkA,↓lv255,↓fz255,wuH,↓reduceIte,xA,xB,xC,xD,xE,xF,reduceCtorEq,xH,xI,xJ,xK,xL,xM,xN,xO,hl,hd,htk,bitsA,wbr]
 ·obtain⟨m,rfl⟩:∃ m,n=m+1:=⟨n-1,by omega⟩
  rfl
theorem run172{k:Int}{n:Nat}(hk : -9223372036854775808≤k∧k≤9223372036854775807)(h1:1≤n)(h2:n≤64):evW 172 [iA k,iA n] []=oR (.tup [bitsA (bitsR n k),okE]):=by
 have q1:decide (((n:Nat):Int)<1)=false:=by simp;omega
 have q2:decide ((64:Int)<(n:Nat))=false:=by simp;omega
 have h255:=run255 (n:=n) hk h1 (by omega)
 rw [w172 rfl]
 conv=>lhs;arg 2;whnf
 simp +contextual -implicitDefEqProofs (maxSteps:=9^9) only [↓wkA,↓lv172,↓fz172,wuH,↓reduceIte,xA,xB,xC,xD,xE,xF,reduceCtorEq,xH,xI,xJ,xK,xL,xM,xN,xO,q1,q2,h255,wbr]
end Go.Proofs.YtdhcgankmhpgeaaGreat.M
namespace Go.Proofs.YtdhcgankmhpgeaaGreat.M
open Go
set_option maxRecDepth 100000
set_option maxHeartbeats 4000000
attribute [local congr] br_congr ob2_congr cnd_congr gdK_congr ob_congr clK_congr finK_congr reg_congr pkK_congr kTK_congr dlT_congr gck_congr iff2_congr sel_congr dPn_congr apJ_congr nmK_congr kTo_congr fzO_congr rcK_congr lvB_congr crK_congr cdB_congr
theorem par_mod{k:Int}{i:Nat}(hi:i<64):((k%18446744073709551616) / 2^i)%2=(k / 2^i)%2:=by
 have hp:(0:Int)<2^i:=Int.pow_pos (by omega)
 have h1:k=k%18446744073709551616+2^i*(2^(64-i)*(k / 18446744073709551616)):=by
  rw [← Int.mul_assoc,← Int.pow_add,show i+(64-i)=64 by omega]
  have:=Int.emod_add_mul_ediv k 18446744073709551616
  omega
 have h2:k / 2^i=(k%18446744073709551616) / 2^i+2^(64-i)*(k / 18446744073709551616):=by
  conv=>lhs;rw [h1]
  rw [Int.add_mul_ediv_left _ _ (by omega)]
 obtain⟨j,hj⟩:∃ j,64-i=j+1:=⟨63-i,by omega⟩
 rw [h2,hj,Int.pow_succ,Int.mul_comm (2^j) 2,Int.mul_assoc]
 omega
theorem bitS_eq{k:Int}{i:Nat}(hi:i<64):bitS (IntKind.u64.wrap k) i=(k / 2^i)%2:=by
 have hw:IntKind.u64.wrap k=k%18446744073709551616:=by simp [IntKind.wrap,IntKind.bits,IntKind.signed]
 have hp:(0:Int)<2^i:=Int.pow_pos (by omega)
 have hm:min i IntKind.u64.bits=i:=by simp [IntKind.bits];omega
 obtain⟨e,he⟩:∃ e:Nat,(k%18446744073709551616) / 2^i=e:=by
  have:0≤(k%18446744073709551616) / 2^i:=Int.ediv_nonneg (by omega) (by omega)
  exact⟨((k%18446744073709551616) / 2^i).toNat,by omega⟩
 rw [← par_mod hi,he]
 unfold bitS
 rw [hm,hw,Int.fdiv_eq_ediv_of_nonneg _ (by omega),he]
 have h3:(BitVec.ofInt IntKind.u64.bits (e:Int) &&& BitVec.ofInt IntKind.u64.bits 1).toNat=e%2:=by
  show (BitVec.ofInt 64 (e:Int) &&& BitVec.ofInt 64 1).toNat=e%2
  rw [BitVec.toNat_and,show (BitVec.ofInt 64 1).toNat=1 from rfl,Nat.and_one_is_mod,BitVec.ofInt_natCast,BitVec.toNat_ofNat]
  omega
 rw [h3]
 simp [IntKind.wrap,IntKind.bits,IntKind.signed]
 omega
theorem ofL_fill{k:Int}:∀(r i:Nat)(xs:LI),ofL k r i xs=fillC (fun i=>some (bitS k i)) r i xs
 | 0,_,_=>rfl
 | r+1,i,xs=>by
   rw [fillC_some rfl,← ofL_fill r (i+1)]
   rfl
theorem bitsR_range:∀(n:Nat)(k:Int),bitsR n k=(List.range n).map fun i=>(k / 2^i)%2
 | 0,_=>rfl
 | n+1,k=>by
   rw [bitsR_succ,bitsR_range n,List.range_succ_eq_map,List.map_cons,List.map_map]
   congr 1
   ·simp
   ·apply List.map_congr_left
    intro i _
    simp only [Function.comp_apply]
    rw [Int.ediv_ediv_of_nonneg (by omega),Int.pow_succ,Int.mul_comm]
theorem bits_eq{n:Nat}{k:Int}(hn:n≤64):ofL (IntKind.u64.wrap k) n 0 (List.replicate n 0)=bitsR n k:=by
 rw [ofL_fill,fillC_tab,bitsR_range]
 unfold tabL
 apply List.map_congr_left
 intro i hi
 have:=List.mem_range.1 hi
 exact bitS_eq (by omega)
open Nat renaming reduceEqDiff → xA, reduceLT → xB, reduceAdd → xC, reduceMul → xD, reduceSub → xE, reduceDiv → xF, reduceLeDiff → xN
open Int renaming reduceAdd → xH, reduceLE → xI, reduceLT → xJ, reduceToNat → xK, reduceEq → xL, reduceBEq → xM
open UInt8 renaming reduceToNat → xO
def sumR:LI→LI→Int→LI
 | x::r,y::s,c=>((x+y+c)%2)::sumR r s ((x+y+c) / 2)
 | _,_,_=>[]
theorem sumR_cons{x y c:Int}{r s:LI}:sumR (x::r) (y::s) c=((x+y+c)%2)::sumR r s ((x+y+c) / 2):=rfl
theorem sumR_nil{s:LI}{c:Int}:sumR [] s c=[]:=rfl
def Bin(l:LI):Prop:=∀ x∈l,x=0∨x=1
theorem loop254{u v:LI}(hb:u.length≤100000)(hl:u.length=v.length)(hu:Bin u)(hv:Bin v){k:KK}{X:LI→OO}
  (h2:∀(xs:LI) fr nx,xs.length=u.length→1≤u.length→look 7 fr=some (.row 0 0 u.length)→k (.exit 0) ⟨fr,[(0,.arr 162 1 (xs.map fun b=>[.int .u8 b]))],nx,[]⟩=X xs) :
  ∀(rest:LI)(i:Nat)(z:Int)(xs:LI),z=0∨z=1→u.drop i=rest→xs.length=i→1≤i→i≤u.length→lpN ⟨35,0,kpOf 254,tb254⟩ (lp Tryz.f254 0) ⟨[(0,bitsA u),(1,bitsA v),(2,.int .u8 z),(7,.row 0 0 i),(11,iA u.length),(12,iA i)],[(0,.arr 162 1 (xs.map fun b=>[.int .u8 b]))],1,[]⟩ k=X (xs++sumR rest (v.drop i) z)
 | [],i,z,xs,hz,hd,hx,h1,hle=>by
   have he:i=u.length:=by
    have:=congrArg List.length hd
    simp at this
    omega
   have hi:decide ((i:Int)<(u.length:Nat))=false:=by simp;omega
   subst he
   have h3:=fun fr nx=>h2 xs fr nx hx h1
   rw [sumR_nil,List.append_nil]
   unfold lpN
   conv=>lhs;arg 2;whnf
   simp +contextual -implicitDefEqProofs (maxSteps:=9^9) only [↓wkA,↓lv254,↓fz254,↓tbr254,wuH,↓reduceIte,xA,xB,xC,xD,xE,xF,reduceCtorEq,xH,xI,xJ,xK,xL,xM,xN,xO,hi,h3,wbr]
 | x::rest,i,z,xs,hz,hd,hx,h1,hle=>by
   have hlt:i<u.length:=by
    have:=congrArg List.length hd
    simp at this
    omega
   have hi:decide ((i:Int)<(u.length:Nat))=true:=by simp;omega
   have hxi:u[i]?=some x:=by
    have:=congrArg (·[0]?) hd
    simpa using this
   have hd2:=drop_nx hd
   have hw:IntKind.i64.wrap ((i:Int)+1)=((i+1:Nat):Int):=wrap_succ (by omega)
   have hlx:(xs.map fun b=>[AV.int .u8 b]).length=i:=by rw [List.length_map];exact hx
   have htk:List.take i (xs.map fun b=>[AV.int .u8 b])=xs.map fun b=>[AV.int .u8 b]:=List.take_of_length_le (by omega)
   have hms:decide (i+1≤most)=true:=by unfold most;simp;omega
   obtain⟨y,hyi⟩:∃ y,v[i]?=some y:=⟨_,List.getElem?_eq_getElem (by omega)⟩
   have hdy:v.drop i=y::v.drop (i+1):=by
    obtain⟨hlt,e⟩:=List.getElem?_eq_some_iff.1 hyi
    rw [List.drop_eq_getElem_cons hlt,e]
   have hx01:=hu x (List.mem_of_getElem? hxi)
   have hy01:=hv y (List.mem_of_getElem? hyi)
   have hw8:IntKind.u8.wrap (x+y)=x+y:=by simp [IntKind.wrap,IntKind.bits,IntKind.signed];omega
   have hw9:IntKind.u8.wrap (x+y+z)=x+y+z:=by simp [IntKind.wrap,IntKind.bits,IntKind.signed];omega
   have hr1:binD cfg.G .rem 162 (.int .u8 (x+y+z)) (.int .u8 2)=some (.int .u8 ((x+y+z)%2)):=(bin_rem rfl).trans (by rw [Int.tmod_eq_emod_of_nonneg (by omega)])
   have hq1:binD cfg.G .quo 162 (.int .u8 (x+y+z)) (.int .u8 2)=some (.int .u8 ((x+y+z) / 2)):=(bin_quo rfl).trans (by
    rw [Int.tdiv_eq_ediv_of_nonneg (by omega),show IntKind.u8.wrap ((x+y+z) / 2)=(x+y+z) / 2 by simp [IntKind.wrap,IntKind.bits,IntKind.signed];omega])
   rw [hdy,sumR_cons]
   have ih:=loop254 hb hl hu hv h2 rest (i+1) ((x+y+z) / 2) (xs++[(x+y+z)%2]) (by omega) hd2 (by simp;omega) (by omega) (by omega)
   rw [List.map_append,List.append_assoc] at ih
   simp only [List.map_cons,List.map_nil,bitsA] at ih
   unfold lpN
   conv=>lhs;arg 2;whnf
   simp +contextual -implicitDefEqProofs (maxSteps:=9^9) only [↓wkA,↓lv254,↓fz254,↓tbr254,wuH,↓reduceIte,xA,xB,xC,xD,xE,xF,reduceCtorEq,xH,xI,xJ,xK,xL,xM,xN,xO,hi,hw,hlx,htk,hms,hxi,hyi,hw8,hw9,hr1,hq1,ih,lq254_0,List.set_cons_zero,take1,keysE_app,bitsA,bitsA_get,wbr]
theorem first254{x y z:Int}{u' v':LI}{u v:LI}(hb:u.length≤100000)(hl:u.length=v.length)(hu:Bin u)(hv:Bin v)(e1:u=x::u')(e2:v=y::v')(hz:z=0∨z=1){k:KK}:lpN ⟨35,0,kpOf 254,tb254⟩ (lp Tryz.f254 0) ⟨[(0,bitsA u),(1,bitsA v),(2,.int .u8 z),(7,.nils),(11,iA u.length),(12,iA 0)],[],0,[]⟩ k=lpN ⟨35,0,kpOf 254,tb254⟩ (lp Tryz.f254 0) ⟨[(0,bitsA u),(1,bitsA v),(2,.int .u8 ((x+y+z) / 2)),(7,.row 0 0 1),(11,iA u.length),(12,iA 1)],[(0,.arr 162 1 [[.int .u8 ((x+y+z)%2)]])],1,[]⟩ k:=by
 have hi:decide ((0:Int)<(u.length:Nat))=true:=by rw [e1];simp
 have hms:decide (1≤most)=true:=by decide
 have hw1:IntKind.i64.wrap ((0:Int)+1)=1:=by decide
 have hxi:u[0]?=some x:=by rw [e1];rfl
 have hyi:v[0]?=some y:=by rw [e2];rfl
 have hx01:=hu x (List.mem_of_getElem? hxi)
 have hy01:=hv y (List.mem_of_getElem? hyi)
 have hw8:IntKind.u8.wrap (x+y)=x+y:=by simp [IntKind.wrap,IntKind.bits,IntKind.signed];omega
 have hw9:IntKind.u8.wrap (x+y+z)=x+y+z:=by simp [IntKind.wrap,IntKind.bits,IntKind.signed];omega
 have hr1:binD cfg.G .rem 162 (.int .u8 (x+y+z)) (.int .u8 2)=some (.int .u8 ((x+y+z)%2)):=(bin_rem rfl).trans (by rw [Int.tmod_eq_emod_of_nonneg (by omega)])
 have hq1:binD cfg.G .quo 162 (.int .u8 (x+y+z)) (.int .u8 2)=some (.int .u8 ((x+y+z) / 2)):=(bin_quo rfl).trans (by
  rw [Int.tdiv_eq_ediv_of_nonneg (by omega),show IntKind.u8.wrap ((x+y+z) / 2)=(x+y+z) / 2 by simp [IntKind.wrap,IntKind.bits,IntKind.signed];omega])
 conv=>lhs;unfold lpN;arg 2;whnf
 conv =>
  lhs
  simp +contextual -implicitDefEqProofs (maxSteps:=9^9) only [↓wkA,↓lv254,↓fz254,↓tbr254,wuH,↓reduceIte,xA,xB,xC,xD,xE,xF,reduceCtorEq,xH,xI,xJ,xK,xL,xM,xN,xO,hi,hw1,hms,hxi,hyi,hw8,hw9,hr1,hq1,lq254_0,List.set_cons_zero,take1,bitsA,bitsA_get,wbr]
 rfl
theorem run254{z:Int}{u v:LI}(hb:u.length≤100000)(hl:u.length=v.length)(hu:Bin u)(hv:Bin v)(h1:1≤u.length)(hz:z=0∨z=1):evW 254 [bitsA u,bitsA v,.int .u8 z] []=oR (bitsA (sumR u v z)):=by
 obtain⟨x,u',e1⟩:∃ x u',u=x::u':=by
  cases u with
  | nil=>simp at h1
  | cons x u'=>exact⟨x,u',rfl⟩
 obtain⟨y,v',e2⟩:∃ y v',v=y::v':=by
  cases v with
  | nil=>rw [List.length_nil] at hl;omega
  | cons y v'=>exact⟨y,v',rfl⟩
 have hx01:=hu x (by rw [e1];simp)
 have hy01:=hv y (by rw [e2];simp)
 rw [w254 rfl]
 conv=>lhs;arg 2;whnf
 simp +contextual -implicitDefEqProofs (maxSteps:=9^9) only [↓wkA,↓lv254,↓fz254,↓tbr254,wuH,↓reduceIte,xA,xB,xC,xD,xE,xF,reduceCtorEq,xH,xI,xJ,xK,xL,xM,xN,xO,wbr]
 refine(lpX_code (c':=lp Tryz.f254 0) (by kernel_rfl)).trans ?_
 rw [lq254_0]
 try simp +contextual -implicitDefEqProofs (maxSteps:=9^9) only [↓wkA,↓lv254,↓fz254,↓tbr254,wuH,↓reduceIte,xA,xB,xC,xD,xE,xF,reduceCtorEq,xH,xI,xJ,xK,xL,xM,xN,xO,wbr]
 refine(first254 hb hl hu hv e1 e2 hz).trans ?_
 refine(loop254 hb hl hu hv (X:=fun xs=>oR (bitsA xs)) ?_ u' 1 ((x+y+z) / 2) [(x+y+z)%2] (by omega) (by rw [e1];rfl) rfl (Nat.le_refl _) h1).trans ?_
 ·intro xs fr nx hx _ hlk
  have hd:decide (u.length≤xs.length)=true:=by simp;omega
  have htk:List.take u.length (xs.map fun b=>[AV.int .u8 b])=xs.map fun b=>[AV.int .u8 b]:=List.take_of_length_le (by rw [List.length_map];omega)
  simp +contextual -implicitDefEqProofs (maxSteps:=9^9) only [↓wkA,↓lv254,↓fz254,↓tbr254,wuH,↓reduceIte,xA,xB,xC,xD,xE,xF,reduceCtorEq,xH,xI,xJ,xK,xL,xM,xN,xO,hlk,hd,htk,bitsA,wbr]
 ·rw [e1,e2]
  rfl
theorem loop248_0{v:LI}(hb:v.length<4611686018427387904){k:KK}{X Y:OO}(h1:∀ fr nx,k .ret ⟨(3,iA 0)::(2,.bool false)::fr,[],nx,[]⟩=X)(h2:∀ fr nx,k (.exit 0) ⟨fr,[],nx,[]⟩=Y) :
  ∀(rest:LI)(i:Nat) ,v.drop i=rest→lpN ⟨18,0,kpOf 248,noTab⟩ (lp Tryz.f248 0) ⟨[(9,bitsA v),(10,iA v.length),(11,iA i)],[],0,[]⟩ k=br (rest.any fun b=>decide (1<b)) X Y
 | [],i,hd=>by
   have hi:=drop_ge hd
   unfold lpN
   conv=>lhs;arg 2;whnf
   simp +contextual -implicitDefEqProofs (maxSteps:=9^9) only [↓wkA,↓lv248,↓fz248,wuA,↓reduceIte,xA,xB,xC,xD,xE,xF,reduceCtorEq,xH,xI,xJ,xK,xL,xM,xN,xO,hi,h1,h2,List.any_nil,wbr]
 | b::rest,i,hd=>by
   have hi:=drop_lt hd
   have hbi:=drop_at hd
   have hd2:=drop_nx hd
   have hw:IntKind.i64.wrap ((i:Int)+1)=((i+1:Nat):Int):=wrap_succ (by simp at hi;omega)
   have ih:=loop248_0 hb h1 h2 rest (i+1) hd2
   simp only [bitsA] at ih
   unfold lpN
   conv=>lhs;arg 2;whnf
   simp +contextual -implicitDefEqProofs (maxSteps:=9^9) only [↓wkA,↓lv248,↓fz248,wuA,↓reduceIte,xA,xB,xC,xD,xE,xF,reduceCtorEq,xH,xI,xJ,xK,xL,xM,xN,xO,hi,hw,hbi,map_get,lq248_0,h1,h2,List.any_cons,ih,bitsA,bitsA_get,wbr]
def knownR(v:LI):Bool := !(v.any fun b=>decide (1<b))
theorem run248{v:LI}(hp:isP v=true)(h0:∀ b∈v,(0:Int)≤b):evW 248 [bitsA v] []=oR (.tup [.bool (knownR v),okE]):=by
 have h97:=run97 (isP_lt hp)
 rw [isP_all hp h0] at h97
 rw [w248 rfl]
 conv=>lhs;arg 2;whnf
 simp +contextual -implicitDefEqProofs (maxSteps:=9^9) only [↓wkA,↓lv248,↓fz248,wuA,↓reduceIte,xA,xB,xC,xD,xE,xF,reduceCtorEq,xH,xI,xJ,xK,xL,xM,xN,xO,h97,wbr]
 refine(lpX_code (c':=lp Tryz.f248 0) (by kernel_rfl)).trans ?_
 rw [lq248_0]
 try simp +contextual -implicitDefEqProofs (maxSteps:=9^9) only [↓wkA,↓lv248,↓fz248,wuA,↓reduceIte,xA,xB,xC,xD,xE,xF,reduceCtorEq,xH,xI,xJ,xK,xL,xM,xN,xO,h97,wbr]
 refine(loop248_0 (isP_lt hp) (X:=oR (.tup [.bool false,okE])) (Y:=oR (.tup [.bool true,okE])) ?_ ?_ v 0 rfl).trans ?_
 ·intro fr nx
  simp +contextual -implicitDefEqProofs (maxSteps:=9^9) only [↓wkA,↓lv248,↓fz248,wuA,↓reduceIte,xA,xB,xC,xD,xE,xF,reduceCtorEq,xH,xI,xJ,xK,xL,xM,xN,xO,wbr]
 ·intro fr nx
  simp +contextual -implicitDefEqProofs (maxSteps:=9^9) only [↓wkA,↓lv248,↓fz248,wuA,↓reduceIte,xA,xB,xC,xD,xE,xF,reduceCtorEq,xH,xI,xJ,xK,xL,xM,xN,xO,wbr]
 unfold knownR
 cases (v.any fun b=>decide (1<b))<;>rfl
theorem run251{v:LI}(hp:isP v=true)(h0:∀ b∈v,(0:Int)≤b):evW 251 [bitsA v] []=oR (.bool (knownR v)):=by
 have h248:=run248 hp h0
 rw [w251 rfl]
 conv=>lhs;arg 2;whnf
 simp +contextual -implicitDefEqProofs (maxSteps:=9^9) only [↓wkA,↓lv251,↓fz251,wuH,↓reduceIte,xA,xB,xC,xD,xE,xF,reduceCtorEq,xH,xI,xJ,xK,xL,xM,xN,xO,h248,wbr]
theorem run252{u v:LI}(hu:isP u=true)(hv:isP v=true)(u0:∀ b∈u,(0:Int)≤b)(v0:∀ b∈v,(0:Int)≤b)(hl:u.length=v.length):evW 252 [bitsA u,bitsA v] []=oR (.bool true):=by
 have a97:=run97 (isP_lt hu)
 rw [isP_all hu u0] at a97
 have b97:=run97 (isP_lt hv)
 rw [isP_all hv v0] at b97
 have hl2:(((u.length:Nat):Int)==(v.length:Nat))=true:=by simp;omega
 rw [w252 rfl]
 conv=>lhs;arg 2;whnf
 simp +contextual -implicitDefEqProofs (maxSteps:=9^9) only [↓wkA,↓lv252,↓fz252,wuH,↓reduceIte,xA,xB,xC,xD,xE,xF,reduceCtorEq,xH,xI,xJ,xK,xL,xM,xN,xO,a97,b97,hl2,wbr]
end Go.Proofs.YtdhcgankmhpgeaaGreat.M
namespace Go.Proofs.YtdhcgankmhpgeaaGreat.M
open Go
set_option maxRecDepth 100000
set_option maxHeartbeats 4000000
attribute [local congr] br_congr ob2_congr cnd_congr gdK_congr ob_congr clK_congr finK_congr reg_congr pkK_congr kTK_congr dlT_congr gck_congr iff2_congr sel_congr dPn_congr apJ_congr nmK_congr kTo_congr fzO_congr rcK_congr lvB_congr crK_congr cdB_congr
def valN:LI→Int
 | []=>0
 | b::r=>b+2*valN r
theorem valN_cons{b:Int}{r:LI}:valN (b::r)=b+2*valN r:=rfl
theorem bin_of{v:LI}(h:knownR v=true)(h0:∀ b∈v,(0:Int)≤b):Bin v:=by
 intro x hx
 have:=h0 x hx
 unfold knownR at h
 rw [Bool.not_eq_true',List.any_eq_false] at h
 have h2:=h x hx
 simp at h2
 omega
theorem maxF_le:∀(r:LI)(x z:Int),maxF x r≤z↔x≤z∧∀ y∈r,y≤z
 | [],x,z=>by simp [maxF]
 | y::r,x,z=>by
   rw [maxF,maxF_le r]
   simp only [List.mem_cons,forall_eq_or_imp]
   split<;>constructor<;>intro h<;>refine⟨by omega,?_⟩
   ·exact⟨h.1,h.2⟩
   ·exact h.2.2
   ·exact⟨by omega,h.2⟩
   ·exact h.2.2
theorem known_eq{v:LI}(hp:isP v=true):knownB v=knownR v:=by
 cases v with
 | nil=>have:=isP_len hp;simp at this
 | cons x r =>
   unfold knownB knownR
   rw [Bool.eq_iff_iff,decide_eq_true_eq,maxF_le]
   simp [List.any_eq_true]
theorem valN_lt:∀{v:LI},Bin v→0≤valN v∧valN v<2^v.length
 | [],_=>by simp [valN]
 | b::r,h=>by
   have ih:=valN_lt fun x hx=>h x (List.mem_cons_of_mem _ hx)
   have hb:=h b (List.mem_cons_self ..)
   rw [valN_cons,List.length_cons,Int.pow_succ]
   omega
theorem numS_eq{m:Int}{i:Nat}{b:Int}(hm:0≤m)(hl:m<2^i)(hi:i<64)(hb:b=0∨b=1):numS m i b=m+b*2^i:=by
 obtain⟨a,rfl⟩:∃ a:Nat,m=a:=⟨m.toNat,by omega⟩
 have ha:a<2^i:=by exact_mod_cast hl
 have h64:(2:Nat)^i<2^64:=Nat.pow_lt_pow_right (by omega) hi
 have h63:(2:Nat)^i≤2^63:=Nat.pow_le_pow_right (by omega) (by omega)
 have hmin:min i IntKind.u64.bits=i:=by simp [IntKind.bits];omega
 unfold numS
 rw [hmin]
 rcases hb with rfl|rfl
 ·have e:(BitVec.ofInt IntKind.u64.bits (a:Int) ||| BitVec.ofInt IntKind.u64.bits (IntKind.u64.wrap (IntKind.u64.wrap (IntKind.u8.wrap ((BitVec.ofInt IntKind.u8.bits 0 &&& BitVec.ofInt IntKind.u8.bits 1).toNat:Nat))*2^i))).toNat=a:=by
   rw [show IntKind.u64.wrap (IntKind.u8.wrap ((BitVec.ofInt IntKind.u8.bits 0 &&& BitVec.ofInt IntKind.u8.bits 1).toNat:Nat))=0 by decide,Int.zero_mul,show IntKind.u64.wrap 0=0 by decide]
   show (BitVec.ofInt 64 (a:Int) ||| BitVec.ofInt 64 0).toNat=a
   rw [BitVec.toNat_or,show (BitVec.ofInt 64 0).toNat=0 from rfl,Nat.or_zero,BitVec.ofInt_natCast,BitVec.toNat_ofNat]
   exact Nat.mod_eq_of_lt (by omega)
  rw [e,Int.zero_mul,Int.add_zero]
  simp [IntKind.wrap,IntKind.bits,IntKind.signed]
  omega
 ·have e:(BitVec.ofInt IntKind.u64.bits (a:Int) ||| BitVec.ofInt IntKind.u64.bits (IntKind.u64.wrap (IntKind.u64.wrap (IntKind.u8.wrap ((BitVec.ofInt IntKind.u8.bits 1 &&& BitVec.ofInt IntKind.u8.bits 1).toNat:Nat))*2^i))).toNat=a+2^i:=by
   have hw:IntKind.u64.wrap (1*2^i)=((2^i:Nat):Int):=by
    rw [Int.one_mul,show ((2:Int)^i)=((2^i:Nat):Int) by simp]
    generalize 2^i=p at h64
    simp [IntKind.wrap,IntKind.bits,IntKind.signed]
    omega
   rw [show IntKind.u64.wrap (IntKind.u8.wrap ((BitVec.ofInt IntKind.u8.bits 1 &&& BitVec.ofInt IntKind.u8.bits 1).toNat:Nat))=1 by decide,hw]
   show (BitVec.ofInt 64 (a:Int) ||| BitVec.ofInt 64 ((2^i:Nat):Int)).toNat=a+2^i
   rw [BitVec.toNat_or,BitVec.ofInt_natCast,BitVec.ofInt_natCast,BitVec.toNat_ofNat,BitVec.toNat_ofNat,Nat.mod_eq_of_lt h64,Nat.mod_eq_of_lt (by omega),Nat.or_comm]
   have t:=Nat.two_pow_add_eq_or_of_lt ha 1
   rw [Nat.mul_one] at t
   rw [← t]
   omega
  rw [e,Int.one_mul,show ((2:Int)^i)=((2^i:Nat):Int) by simp]
  generalize 2^i=p at h63 ha
  simp [IntKind.wrap,IntKind.bits,IntKind.signed]
  omega
theorem numF_eq:∀(r:LI)(m:Int)(i:Nat),Bin r→0≤m→m<2^i→i+r.length≤64→numF m i r=m+2^i*valN r
 | [],m,i,_,_,_,_=>by simp [numF,valN]
 | b::r,m,i,hb,hm,hl,hi=>by
   rw [List.length_cons] at hi
   have h1:=hb b (List.mem_cons_self ..)
   have hp:(0:Int)<2^i:=Int.pow_pos (by omega)
   rw [numF,numS_eq hm hl (by omega) h1,numF_eq r _ (i+1) (fun x hx=>hb x (List.mem_cons_of_mem _ hx)) (by rcases h1 with rfl|rfl<;>omega) (by rw [Int.pow_succ];rcases h1 with rfl|rfl<;>omega) (by omega),valN_cons,Int.pow_succ]
   rw [Int.mul_add,Int.mul_comm b,Int.add_assoc,Int.mul_assoc]
theorem num_val{v:LI}(h:Bin v)(hl:v.length≤64):numF 0 0 v=valN v:=by
 rw [numF_eq v 0 0 h (by omega) (by simp) (by omega)]
 simp
theorem sum_bits:∀(u v:LI)(c:Int),u.length=v.length→sumR u v c=bitsR u.length (valN u+valN v+c)
 | [],_,_,_=>rfl
 | x::r,[],_,h=>by simp at h
 | x::r,y::s,c,h=>by
   rw [sumR_cons,List.length_cons,bitsR_succ,sum_bits r s _ (by simpa using h),valN_cons,valN_cons]
   congr 1
   ·omega
   ·congr 1
    omega
open Nat renaming reduceEqDiff → xA, reduceLT → xB, reduceAdd → xC, reduceMul → xD, reduceSub → xE, reduceDiv → xF, reduceLeDiff → xN
open Int renaming reduceAdd → xH, reduceLE → xI, reduceLT → xJ, reduceToNat → xK, reduceEq → xL, reduceBEq → xM
open UInt8 renaming reduceToNat → xO
def appF(g:Nat→Int→Int):Nat→LI→LI
 | _,[]=>[]
 | i,x::r=>g i x::appF g (i+1) r
theorem appF_cons{g:Nat→Int→Int}{i:Nat}{x:Int}{r:LI}:appF g i (x::r)=g i x::appF g (i+1) r:=rfl
def notB(b:Int):Int:=br (b==0) 1 (br (b==1) 0 2)
def Bit4(l:LI):Prop:=∀ x∈l,0≤x∧x≤3
theorem run306_0:evW 306 [.int .u8 0] []=oR (.tup [.int .u8 1,okE]):=ev_le 20 306 _ _ _ (by kernel_rfl)
theorem run306_1:evW 306 [.int .u8 1] []=oR (.tup [.int .u8 0,okE]):=ev_le 20 306 _ _ _ (by kernel_rfl)
theorem run306_2:evW 306 [.int .u8 2] []=oR (.tup [.int .u8 2,okE]):=ev_le 20 306 _ _ _ (by kernel_rfl)
theorem run306_3:evW 306 [.int .u8 3] []=oR (.tup [.int .u8 2,okE]):=ev_le 20 306 _ _ _ (by kernel_rfl)
theorem run306{b:Int}(h:0≤b∧b≤3):evW 306 [.int .u8 b] []=oR (.tup [.int .u8 (notB b),okE]):=by
 have:b=0∨b=1∨b=2∨b=3:=by omega
 rcases this with rfl|rfl|rfl|rfl
 ·exact run306_0
 ·exact run306_1
 ·exact run306_2
 ·exact run306_3
theorem loop246{u:LI}(hb:u.length≤100000)(h4:Bit4 u)(h97:evW 97 [bitsA u] []=oR (.bool true)){k:KK}{X:LI→OO}
  (h2:∀(xs:LI) fr nx,xs.length=u.length→1≤u.length→look 4 fr=some (.row 0 0 u.length)→k (.exit 0) ⟨fr,[(0,.arr 162 1 (xs.map fun b=>[.int .u8 b]))],nx,[]⟩=X xs) :
  ∀(rest:LI)(i:Nat)(xs:LI),u.drop i=rest→xs.length=i→1≤i→i≤u.length→lpN ⟨29,0,kpOf 246,noTab⟩ (lp Tryz.f246 0) ⟨[(4,.row 0 0 i),(12,bitsA u),(13,iA u.length),(14,iA i)],[(0,.arr 162 1 (xs.map fun b=>[.int .u8 b]))],1,[]⟩ k=X (xs++appF (fun i x=>notB x) i rest)
 | [],i,xs,hd,hx,h1,hle=>by
   have he:i=u.length:=by
    have:=congrArg List.length hd
    simp at this
    omega
   have hi:decide ((i:Int)<(u.length:Nat))=false:=by simp;omega
   subst he
   have h3:=fun fr nx=>h2 xs fr nx hx h1
   rw [appF,List.append_nil]
   unfold lpN
   conv=>lhs;arg 2;whnf
   simp +contextual -implicitDefEqProofs (maxSteps:=9^9) only [↓wkA,↓lv246,↓fz246,wuH,↓reduceIte,xA,xB,xC,xD,xE,xF,reduceCtorEq,xH,xI,xJ,xK,xL,xM,xN,xO,hi,h3,wbr]
 | x::rest,i,xs,hd,hx,h1,hle=>by
   have hlt:i<u.length:=by
    have:=congrArg List.length hd
    simp at this
    omega
   have hi:decide ((i:Int)<(u.length:Nat))=true:=by simp;omega
   have hxi:u[i]?=some x:=by
    have:=congrArg (·[0]?) hd
    simpa using this
   have hd2:=drop_nx hd
   have hw:IntKind.i64.wrap ((i:Int)+1)=((i+1:Nat):Int):=wrap_succ (by omega)
   have hlx:(xs.map fun b=>[AV.int .u8 b]).length=i:=by rw [List.length_map];exact hx
   have htk:List.take i (xs.map fun b=>[AV.int .u8 b])=xs.map fun b=>[AV.int .u8 b]:=List.take_of_length_le (by omega)
   have hms:decide (i+1≤most)=true:=by unfold most;simp;omega
   have h306:=run306 (h4 x (List.mem_of_getElem? hxi))
   rw [appF_cons]
   have ih:=loop246 hb h4 h97 h2 rest (i+1) (xs++[notB x]) hd2 (by simp;omega) (by omega) (by omega)
   rw [List.map_append,List.append_assoc] at ih
   simp only [List.map_cons,List.map_nil,bitsA] at ih
   unfold lpN
   conv=>lhs;arg 2;whnf
   simp +contextual -implicitDefEqProofs (maxSteps:=9^9) only [↓wkA,↓lv246,↓fz246,wuH,↓reduceIte,xA,xB,xC,xD,xE,xF,reduceCtorEq,xH,xI,xJ,xK,xL,xM,xN,xO,hi,hw,hlx,htk,hms,hxi,ih,lq246_0,List.set_cons_zero,take1,keysE_app,bitsA,bitsA_get,h306,wbr]
theorem loop246F{x:Int}{u':LI}{u:LI}(hb:u.length≤100000)(h4:Bit4 u)(h97:evW 97 [bitsA u] []=oR (.bool true))(e1:u=x::u'){k:KK}:lpN ⟨29,0,kpOf 246,noTab⟩ (lp Tryz.f246 0) ⟨[(4,.nils),(12,bitsA u),(13,iA u.length),(14,iA 0)],[],0,[]⟩ k=lpN ⟨29,0,kpOf 246,noTab⟩ (lp Tryz.f246 0) ⟨[(4,.row 0 0 1),(12,bitsA u),(13,iA u.length),(14,iA 1)],[(0,.arr 162 1 [[.int .u8 (notB x)]])],1,[]⟩ k:=by
 have hi:decide ((0:Int)<(u.length:Nat))=true:=by rw [e1];simp
 have hlt:0<u.length:=by rw [e1];simp
 have hms:decide (1≤most)=true:=by decide
 have hw1:IntKind.i64.wrap ((0:Int)+1)=1:=by decide
 obtain⟨i,hi0⟩:∃ i,i=0:=⟨0,rfl⟩
 have hxi:u[i]?=some x:=by rw [hi0,e1];rfl
 have h306:=run306 (h4 x (List.mem_of_getElem? hxi))
 subst hi0
 conv=>lhs;unfold lpN;arg 2;whnf
 conv =>
  lhs
  simp +contextual -implicitDefEqProofs (maxSteps:=9^9) only [↓wkA,↓lv246,↓fz246,wuH,↓reduceIte,xA,xB,xC,xD,xE,xF,reduceCtorEq,xH,xI,xJ,xK,xL,xM,xN,xO,hi,hw1,hms,hxi,lq246_0,List.set_cons_zero,take1,bitsA,bitsA_get,h306,wbr]
 try rfl
theorem run246{u:LI}(hb:u.length≤100000)(h4:Bit4 u)(h97:evW 97 [bitsA u] []=oR (.bool true))(hu1:1≤u.length):evW 246 [bitsA u] []=oR (.tup [bitsA (appF (fun i x=>notB x) 0 u),okE]):=by
 obtain⟨x,u',e1⟩:∃ x u',u=x::u':=by
  cases u with
  | nil=>simp at hu1
  | cons x u'=>exact⟨x,u',rfl⟩
 rw [w246 rfl]
 conv=>lhs;arg 2;whnf
 simp +contextual -implicitDefEqProofs (maxSteps:=9^9) only [↓wkA,↓lv246,↓fz246,wuH,↓reduceIte,xA,xB,xC,xD,xE,xF,reduceCtorEq,xH,xI,xJ,xK,xL,xM,xN,xO,h97,wbr]
 refine(lpX_code (c':=lp Tryz.f246 0) (by kernel_rfl)).trans ?_
 rw [lq246_0]
 try simp +contextual -implicitDefEqProofs (maxSteps:=9^9) only [↓wkA,↓lv246,↓fz246,wuH,↓reduceIte,xA,xB,xC,xD,xE,xF,reduceCtorEq,xH,xI,xJ,xK,xL,xM,xN,xO,h97,wbr]
 refine(loop246F hb h4 h97 e1).trans ?_
 refine(loop246 hb h4 h97 (X:=fun xs=>oR (.tup [bitsA (xs),okE])) ?_ u' 1 [notB x] (by rw [e1];rfl) rfl (Nat.le_refl _) hu1).trans ?_
 ·intro xs fr nx hx _ hlk
  have hd:decide (u.length≤xs.length)=true:=by simp;omega
  have htk:List.take u.length (xs.map fun b=>[AV.int .u8 b])=xs.map fun b=>[AV.int .u8 b]:=List.take_of_length_le (by rw [List.length_map];omega)
  simp +contextual -implicitDefEqProofs (maxSteps:=9^9) only [↓wkA,↓lv246,↓fz246,wuH,↓reduceIte,xA,xB,xC,xD,xE,xF,reduceCtorEq,xH,xI,xJ,xK,xL,xM,xN,xO,hlk,hd,htk,bitsA,wbr]
 ·rw [e1]
  rfl
end Go.Proofs.YtdhcgankmhpgeaaGreat.M
