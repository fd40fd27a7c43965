import Derived.Test.YtdhcgankmhpgeaaGreatB22
set_option linter.all false
namespace Go.Proofs.YtdhcgankmhpgeaaGreat.M
open Go
open Nat renaming reduceEqDiff → xA, reduceLT → xB, reduceAdd → xC, reduceMul → xD, reduceSub → xE, reduceDiv → xF, reduceLeDiff → xN
open Int renaming reduceAdd → xH, reduceLE → xI, reduceLT → xJ, reduceToNat → xK, reduceEq → xL, reduceBEq → xM
open UInt8 renaming reduceToNat → xO
set_option maxRecDepth 100000
set_option maxHeartbeats 4000000
attribute [local congr] br_congr ob2_congr cnd_congr gdK_congr ob_congr clK_congr finK_congr reg_congr pkK_congr kTK_congr dlT_congr gck_congr iff2_congr sel_congr dPn_congr apJ_congr nmK_congr kTo_congr fzO_congr rcK_congr lvB_congr crK_congr cdB_congr
def gN(v:LI)(i:Nat):Option Int:=(v[i]?).map notB
theorem loop228_0{n:Nat}(hb:n<100000){v:LI}(hv:v.length=n){k:KK}{X:LI→OO}
  (h2:∀(xs:LI) fr nx,xs.length=n→look 4 fr=some (.row 0 0 n)→k (.exit 0) ⟨fr,[(0,.arr 162 1 (xs.map fun b=>[.int .u8 b]))],nx,[]⟩=X xs) :
  ∀(r i:Nat)(xs:LI),i+r=n→xs.length=n→lpN ⟨27,0,kpOf 228,noTab⟩ (lp Tryz.f228 0) ⟨[(4,.row 0 0 n),(13,bitsA v),(14,iA n),(15,iA i)],[(0,.arr 162 1 (xs.map fun b=>[.int .u8 b]))],1,[]⟩ k=X (fillC (gN v) r i xs)
 | 0,i,xs,hr,hx=>by
   have hi:decide ((i:Int)<(n:Nat))=false:=by simp;omega
   have h3:=fun fr nx=>h2 xs fr nx hx
   unfold lpN
   conv=>lhs;arg 2;whnf
   simp +contextual -implicitDefEqProofs (maxSteps:=9^9) only [↓wkA,↓lv228,↓fz228,wuH,↓reduceIte,xA,xB,xC,xD,xE,xF,reduceCtorEq,xH,xI,xJ,xK,xL,xM,xN,xO,hi,h3,fillC,wbr]
 | r+1,i,xs,hr,hx=>by
   have hi:decide ((i:Int)<(n:Nat))=true:=by simp;omega
   have hi3:i<n:=by omega
   have hi4:n≤xs.length:=by omega
   obtain⟨c,hc⟩:∃ c,xs[i]?=some c:=⟨_,List.getElem?_eq_getElem (by omega)⟩
   have hw:IntKind.i64.wrap ((i:Int)+1)=((i+1:Nat):Int):=wrap_succ (by omega)
   obtain⟨e,he⟩:∃ e,v[i]?=some e:=⟨_,List.getElem?_eq_getElem (by omega)⟩
   have hg:gN v i=some (notB e):=by unfold gN;rw [he];rfl
   rw [fillC_some hg]
   have ih:=loop228_0 hb (v:=v) hv h2 r (i+1) (xs.set i (notB e)) (by omega) (by rw [List.length_set];exact hx)
   simp only [bitsA] at ih
   have h295:=run295 (b:=e)
   change _=some (AE.ret (.int .u8 (notB e)),[]) at h295
   unfold lpN
   conv=>lhs;arg 2;whnf
   simp +contextual -implicitDefEqProofs (maxSteps:=9^9) only [↓wkA,↓lv228,↓fz228,wuH,↓reduceIte,xA,xB,xC,xD,xE,xF,reduceCtorEq,xH,xI,xJ,xK,xL,xM,xN,xO,hi,hi3,hi4,hw,hc,bitsA_get,ih,lq228_0,decide_eq_true_eq,he,h295,bitsA,wbr]
theorem run228{v:LI}(hp:isP v=true):evW 228 [bitsA v] []=oR (.tup [bitsA (tabL v.length (gN v)),okE]):=by
 have h188:=run188 (isP_lt hp)
 rw [hp] at h188
 simp only [bitsA] at h188
 have hl:=isP_len hp
 have hm:decide ((0:Int)≤(v.length:Nat)∧((v.length:Nat):Int)≤1000000)=true:=by simp;omega
 rw [← fillC_tab]
 rw [w228 rfl]
 conv=>lhs;arg 2;whnf
 simp +contextual -implicitDefEqProofs (maxSteps:=9^9) only [↓wkA,↓lv228,↓fz228,wuH,↓reduceIte,xA,xB,xC,xD,xE,xF,reduceCtorEq,xH,xI,xJ,xK,xL,xM,xN,xO,h188,hm,rep8,bitsA,wbr]
 refine(lpX_code (c':=lp Tryz.f228 0) (by kernel_rfl)).trans ?_
 rw [lq228_0]
 try simp +contextual -implicitDefEqProofs (maxSteps:=9^9) only [↓wkA,↓lv228,↓fz228,wuH,↓reduceIte,xA,xB,xC,xD,xE,xF,reduceCtorEq,xH,xI,xJ,xK,xL,xM,xN,xO,h188,hm,rep8,wbr]
 refine(loop228_0 (n:=v.length) (by omega) (v:=v) rfl (X:=fun xs=>oR (.tup [bitsA xs,okE])) ?_ v.length 0 (List.replicate v.length 0) (by omega) (by simp)).trans ?_
 ·intro xs fr nx hx hlk
  have hd:decide (v.length≤xs.length)=true:=by simp;omega
  have htk:List.take v.length (xs.map fun b=>[AV.int .u8 b])=xs.map fun b=>[AV.int .u8 b]:=List.take_of_length_le (by rw [List.length_map];omega)
  simp +contextual -implicitDefEqProofs (maxSteps:=9^9) only [↓wkA,↓lv228,↓fz228,wuH,↓reduceIte,xA,xB,xC,xD,xE,xF,reduceCtorEq,xH,xI,xJ,xK,xL,xM,xN,xO,hlk,hd,htk,bitsA,wbr]
 ·rfl
theorem appF_map{g:Int→Int}:∀(l:LI)(i:Nat),appF (fun _ x=>g x) i l=l.map g
 | [],_=>rfl
 | x::r,i=>by rw [appF_cons,appF_map r,List.map_cons]
theorem tab_map{v:LI}{g:Int→Int}:tabL v.length (fun i=>(v[i]?).map g)=v.map g:=by
 apply List.ext_getElem?
 intro j
 unfold tabL
 by_cases h:j<v.length
 ·simp [h]
 ·simp [h]
theorem inv_eq{v:LI}:appF (fun _ x=>notB x) 0 v=tabL v.length (gN v):=by
 rw [appF_map]
 exact tab_map.symm
theorem run166x0{u v:LI}(hu:isP u=true)(hv:isP v=true)(u0:∀ b∈u,(0:Int)≤b)(v0:∀ b∈v,(0:Int)≤b)(hl:u.length=v.length)(q0:(!knownR u)=true):evW 166 [bitsA u,bitsA v] []=oR (.tup [bitsA (List.replicate u.length 2),okE]):=by
 have h252:=run252 hu hv u0 v0 hl
 have hku:=run251 hu u0
 have hkv:=run251 hv v0
 have hlen:=isP_len hu
 have h253:=run253 (b:=2) (n:=u.length) (by omega) (by omega)
 have hd:decide (u.length≤(List.replicate u.length (2:Int)).length)=true:=by simp
 have htk:List.take u.length ((List.replicate u.length (2:Int)).map fun b=>[AV.int .u8 b])=(List.replicate u.length (2:Int)).map fun b=>[AV.int .u8 b]:=List.take_of_length_le (by simp)
 simp only [bitsA] at h252 hku hkv
 rw [w166 rfl]
 conv=>lhs;arg 2;whnf
 simp +contextual -implicitDefEqProofs (maxSteps:=9^9) only [↓wkA,↓lv166,↓fz166,wuH,↓reduceIte,xA,xB,xC,xD,xE,xF,reduceCtorEq,xH,xI,xJ,xK,xL,xM,xN,xO,q0,h252,hku,hkv,h253,bitsA,hd,htk,wbr]
theorem run166x1{u v:LI}(hu:isP u=true)(hv:isP v=true)(u0:∀ b∈u,(0:Int)≤b)(v0:∀ b∈v,(0:Int)≤b)(hl:u.length=v.length)(q0:(!knownR u)=false)(q1:(!knownR v)=true):evW 166 [bitsA u,bitsA v] []=oR (.tup [bitsA (List.replicate u.length 2),okE]):=by
 have h252:=run252 hu hv u0 v0 hl
 have hku:=run251 hu u0
 have hkv:=run251 hv v0
 have hlen:=isP_len hu
 have h253:=run253 (b:=2) (n:=u.length) (by omega) (by omega)
 have hd:decide (u.length≤(List.replicate u.length (2:Int)).length)=true:=by simp
 have htk:List.take u.length ((List.replicate u.length (2:Int)).map fun b=>[AV.int .u8 b])=(List.replicate u.length (2:Int)).map fun b=>[AV.int .u8 b]:=List.take_of_length_le (by simp)
 simp only [bitsA] at h252 hku hkv
 rw [w166 rfl]
 conv=>lhs;arg 2;whnf
 simp +contextual -implicitDefEqProofs (maxSteps:=9^9) only [↓wkA,↓lv166,↓fz166,wuH,↓reduceIte,xA,xB,xC,xD,xE,xF,reduceCtorEq,xH,xI,xJ,xK,xL,xM,xN,xO,q0,q1,h252,hku,hkv,h253,bitsA,hd,htk,wbr]
theorem run167x0{u v:LI}(hu:isP u=true)(hv:isP v=true)(u0:∀ b∈u,(0:Int)≤b)(v0:∀ b∈v,(0:Int)≤b)(hl:u.length=v.length)(q0:(!knownR u)=true):evW 167 [bitsA u,bitsA v] []=oR (.tup [bitsA (List.replicate u.length 2),okE]):=by
 have h252:=run252 hu hv u0 v0 hl
 have hku:=run251 hu u0
 have hkv:=run251 hv v0
 have hlen:=isP_len hu
 have h253:=run253 (b:=2) (n:=u.length) (by omega) (by omega)
 have hd:decide (u.length≤(List.replicate u.length (2:Int)).length)=true:=by simp
 have htk:List.take u.length ((List.replicate u.length (2:Int)).map fun b=>[AV.int .u8 b])=(List.replicate u.length (2:Int)).map fun b=>[AV.int .u8 b]:=List.take_of_length_le (by simp)
 simp only [bitsA] at h252 hku hkv
 rw [w167 rfl]
 conv=>lhs;arg 2;whnf
 simp +contextual -implicitDefEqProofs (maxSteps:=9^9) only [↓wkA,↓lv167,↓fz167,wuH,↓reduceIte,xA,xB,xC,xD,xE,xF,reduceCtorEq,xH,xI,xJ,xK,xL,xM,xN,xO,q0,h252,hku,hkv,h253,bitsA,hd,htk,wbr]
theorem run167x1{u v:LI}(hu:isP u=true)(hv:isP v=true)(u0:∀ b∈u,(0:Int)≤b)(v0:∀ b∈v,(0:Int)≤b)(hl:u.length=v.length)(q0:(!knownR u)=false)(q1:(!knownR v)=true):evW 167 [bitsA u,bitsA v] []=oR (.tup [bitsA (List.replicate u.length 2),okE]):=by
 have h252:=run252 hu hv u0 v0 hl
 have hku:=run251 hu u0
 have hkv:=run251 hv v0
 have hlen:=isP_len hu
 have h253:=run253 (b:=2) (n:=u.length) (by omega) (by omega)
 have hd:decide (u.length≤(List.replicate u.length (2:Int)).length)=true:=by simp
 have htk:List.take u.length ((List.replicate u.length (2:Int)).map fun b=>[AV.int .u8 b])=(List.replicate u.length (2:Int)).map fun b=>[AV.int .u8 b]:=List.take_of_length_le (by simp)
 simp only [bitsA] at h252 hku hkv
 rw [w167 rfl]
 conv=>lhs;arg 2;whnf
 simp +contextual -implicitDefEqProofs (maxSteps:=9^9) only [↓wkA,↓lv167,↓fz167,wuH,↓reduceIte,xA,xB,xC,xD,xE,xF,reduceCtorEq,xH,xI,xJ,xK,xL,xM,xN,xO,q0,q1,h252,hku,hkv,h253,bitsA,hd,htk,wbr]
theorem bin_not{v:LI}(h:Bin v):Bin (v.map notB):=by
 intro x hx
 obtain⟨y,hy,rfl⟩:=List.mem_map.1 hx
 rcases h y hy with rfl|rfl
 ·exact .inr rfl
 ·exact .inl rfl
theorem bit4_of{v:LI}(hp:isP v=true)(h0:∀ b∈v,(0:Int)≤b):Bit4 v:=by
 intro x hx
 have h:=(isP_eq h0).trans hp
 simp only [Bool.and_eq_true] at h
 have h1:=List.all_eq_true.1 h.1 x hx
 unfold isBitB at h1
 simp at h1
 omega
theorem run166a{u v:LI}(hu:isP u=true)(hv:isP v=true)(u0:∀ b∈u,(0:Int)≤b)(v0:∀ b∈v,(0:Int)≤b)(hl:u.length=v.length)(q0:(!knownR u)=false)(q1:(!knownR v)=false):evW 166 [bitsA u,bitsA v] []=oR (.tup [bitsA (sumR u v 0),okE]):=by
 have h252:=run252 hu hv u0 v0 hl
 have hku:=run251 hu u0
 have hkv:=run251 hv v0
 have hlen:=isP_len hu
 have h253:=run253 (b:=2) (n:=u.length) (by omega) (by omega)
 have hd:decide (u.length≤(List.replicate u.length (2:Int)).length)=true:=by simp
 have htk:List.take u.length ((List.replicate u.length (2:Int)).map fun b=>[AV.int .u8 b])=(List.replicate u.length (2:Int)).map fun b=>[AV.int .u8 b]:=List.take_of_length_le (by simp)
 simp only [bitsA] at h252 hku hkv
 have bu:=bin_of (not_f q0) u0
 have bv:=bin_of (not_f q1) v0
 have h254:=run254 (z:=0) (by omega) hl bu bv (by omega) (.inl rfl)
 simp only [bitsA] at h254
 rw [w166 rfl]
 conv=>lhs;arg 2;whnf
 simp +contextual -implicitDefEqProofs (maxSteps:=9^9) only [↓wkA,↓lv166,↓fz166,wuH,↓reduceIte,xA,xB,xC,xD,xE,xF,reduceCtorEq,xH,xI,xJ,xK,xL,xM,xN,xO,h252,hku,hkv,h253,bitsA,hd,htk,q0,q1,h254,wbr]
theorem run167a{u v:LI}(hu:isP u=true)(hv:isP v=true)(u0:∀ b∈u,(0:Int)≤b)(v0:∀ b∈v,(0:Int)≤b)(hl:u.length=v.length)(q0:(!knownR u)=false)(q1:(!knownR v)=false):evW 167 [bitsA u,bitsA v] []=oR (.tup [bitsA (sumR u (v.map notB) 1),okE]):=by
 have h252:=run252 hu hv u0 v0 hl
 have hku:=run251 hu u0
 have hkv:=run251 hv v0
 have hlen:=isP_len hu
 have h253:=run253 (b:=2) (n:=u.length) (by omega) (by omega)
 have hd:decide (u.length≤(List.replicate u.length (2:Int)).length)=true:=by simp
 have htk:List.take u.length ((List.replicate u.length (2:Int)).map fun b=>[AV.int .u8 b])=(List.replicate u.length (2:Int)).map fun b=>[AV.int .u8 b]:=List.take_of_length_le (by simp)
 simp only [bitsA] at h252 hku hkv
 have bu:=bin_of (not_f q0) u0
 have bv:=bin_of (not_f q1) v0
 have h97:=run97 (isP_lt hv)
 rw [isP_all hv v0] at h97
 have h246:=run246 (by omega) (bit4_of hv v0) h97 (by omega)
 rw [appF_map] at h246
 have h254:=run254 (u:=u) (v:=v.map notB) (z:=1) (by omega) (by rw [List.length_map];exact hl) bu (bin_not bv) (by omega) (.inr rfl)
 simp only [bitsA] at h254 h246
 rw [w167 rfl]
 conv=>lhs;arg 2;whnf
 simp +contextual -implicitDefEqProofs (maxSteps:=9^9) only [↓wkA,↓lv167,↓fz167,wuH,↓reduceIte,xA,xB,xC,xD,xE,xF,reduceCtorEq,xH,xI,xJ,xK,xL,xM,xN,xO,h252,hku,hkv,h253,bitsA,hd,htk,q0,q1,h254,h246,wbr]
theorem add_eq{u v:LI}(hu:isP u=true)(hv:isP v=true)(u0:∀ b∈u,(0:Int)≤b)(v0:∀ b∈v,(0:Int)≤b)(hl:u.length=v.length):cmpF (fun x y=>IntKind.u64.wrap (x+y)) u v=br (knownR u&&knownR v) (sumR u v 0) (List.replicate u.length 2):=by
 unfold cmpF
 rw [known_eq hu,known_eq hv]
 have hlen:=isP_len hu
 cases q0:knownR u with
 | false=>rfl
 | true =>
   cases q1:knownR v with
   | false=>rfl
   | true =>
     rw [num_val (bin_of q0 u0) (by omega),num_val (bin_of q1 v0) (by omega),bits_eq (by omega),sum_bits u v 0 hl,Int.add_zero]
theorem not_val:∀{v:LI},Bin v→valN (v.map notB)=2^v.length-1-valN v
 | [],_=>rfl
 | b::r,h=>by
   have ih:=not_val fun x hx=>h x (List.mem_cons_of_mem _ hx)
   rw [List.map_cons,valN_cons,ih,valN_cons,List.length_cons,Int.pow_succ]
   rcases h b (List.mem_cons_self ..) with rfl|rfl
   ·show 1+_=_
    omega
   ·show 0+_=_
    omega
theorem bitsR_add:∀(n:Nat)(k t:Int),bitsR n (k+2^n*t)=bitsR n k
 | 0,_,_=>rfl
 | n+1,k,t=>by
   rw [bitsR_succ,bitsR_succ,show k+2^(n+1)*t=k+2*(2^n*t) by rw [Int.pow_succ,Int.mul_comm (2^n) 2,Int.mul_assoc],show (k+2*(2^n*t))%2=k%2 by omega,show (k+2*(2^n*t)) / 2=k / 2+2^n*t by omega,bitsR_add n]
theorem sub_eq{u v:LI}(hu:isP u=true)(hv:isP v=true)(u0:∀ b∈u,(0:Int)≤b)(v0:∀ b∈v,(0:Int)≤b)(hl:u.length=v.length):cmpF (fun x y=>IntKind.u64.wrap (x-y)) u v=br (knownR u&&knownR v) (sumR u (v.map notB) 1) (List.replicate u.length 2):=by
 unfold cmpF
 rw [known_eq hu,known_eq hv]
 have hlen:=isP_len hu
 cases q0:knownR u with
 | false=>rfl
 | true =>
   cases q1:knownR v with
   | false=>rfl
   | true =>
     rw [num_val (bin_of q0 u0) (by omega),num_val (bin_of q1 v0) (by omega),bits_eq (by omega),sum_bits u _ 1 (by rw [List.length_map];exact hl),not_val (bin_of q1 v0)]
     rw [show valN u+(2^v.length-1-valN v)+1=(valN u-valN v)+2^u.length*1 by rw [hl];omega,bitsR_add]
theorem loop162{v:LI}(hv:Bin v)(hl:v.length≤64){k:KK}{X:Int→OO}
  (h2:∀ fr nx,look 4 fr=some (.int .u64 (valN v))→k (.exit 1) ⟨fr,[],nx,[]⟩=X (valN v)) :
  ∀(r i:Nat)(z:Int),i+r=v.length→z=valN (v.drop r)→lpN ⟨33,0,kpOf 162,noTab⟩ (lp Tryz.f162 0) ⟨[(0,bitsA v),(4,.int .u64 z),(15,iA v.length),(16,iA i)],[],0,[]⟩ k=X (valN v)
 | 0,i,z,hr,hz=>by
   have hi:decide ((i:Int)<(v.length:Nat))=false:=by simp;omega
   rw [List.drop_zero] at hz
   subst hz
   unfold lpN
   conv=>lhs;arg 2;whnf
   simp +contextual -implicitDefEqProofs (maxSteps:=9^9) only [↓wkA,↓lv162,↓fz162,wuH,↓reduceIte,xA,xB,xC,xD,xE,xF,reduceCtorEq,xH,xI,xJ,xK,xL,xM,xN,xO,hi,h2,wbr]
 | r+1,i,z,hr,hz=>by
   have hi:decide ((i:Int)<(v.length:Nat))=true:=by simp;omega
   have hw:IntKind.i64.wrap ((i:Int)+1)=((i+1:Nat):Int):=wrap_succ (by omega)
   obtain⟨b,hb⟩:∃ b,v[r]?=some b:=⟨_,List.getElem?_eq_getElem (by omega)⟩
   have hdb:v.drop r=b::v.drop (r+1):=by
    obtain⟨hlt,e⟩:=List.getElem?_eq_some_iff.1 hb
    rw [List.drop_eq_getElem_cons hlt,e]
   have hb01:=hv b (List.mem_of_getElem? hb)
   have hw1:IntKind.i64.wrap ((v.length:Int)-1)=(v.length:Int)-1:=wrap_i64 (by omega) (by omega)
   have hw2:IntKind.i64.wrap ((v.length:Int)-1-(i:Int))=(r:Nat):=by rw [wrap_i64 (by omega) (by omega)];omega
   have hz2:=valN_lt (v:=v.drop (r+1)) fun x hx=>hv x (List.mem_of_mem_drop hx)
   have hp:(2:Int)^(v.drop (r+1)).length≤2^63:=by
    have:(v.drop (r+1)).length≤63:=by simp;omega
    exact_mod_cast Nat.pow_le_pow_right (by omega) this
   have hz3:0≤z∧z<9223372036854775808:=by rw [hz];exact⟨hz2.1,by have:=hz2.2;omega⟩
   have hw3:IntKind.u64.wrap (2*z)=2*z:=by simp [IntKind.wrap,IntKind.bits,IntKind.signed];omega
   have hw4:IntKind.u64.wrap b=b:=by simp [IntKind.wrap,IntKind.bits,IntKind.signed];omega
   have hw5:IntKind.u64.wrap (2*z+b)=2*z+b:=by simp [IntKind.wrap,IntKind.bits,IntKind.signed];omega
   have ih:=loop162 hv hl h2 r (i+1) (2*z+b) (by omega) (by rw [hdb,valN_cons,hz];omega)
   simp only [bitsA] at ih
   unfold lpN
   conv=>lhs;arg 2;whnf
   simp +contextual -implicitDefEqProofs (maxSteps:=9^9) only [↓wkA,↓lv162,↓fz162,wuH,↓reduceIte,xA,xB,xC,xD,xE,xF,reduceCtorEq,xH,xI,xJ,xK,xL,xM,xN,xO,hi,hw,hw1,hw2,hw3,hw4,hw5,hb,ih,lq162_0,bitsA,bitsA_get,wbr]
theorem run162e{v:LI}(hp:isP v=true)(h0:∀ b∈v,(0:Int)≤b)(q:knownR v=false):evW 162 [bitsA v] []=oR (.tup [.int .u64 0,iA 4]):=by
 have h97:=run97 (isP_lt hp)
 rw [isP_all hp h0] at h97
 have hk:=run251 hp h0
 rw [q] at hk
 simp only [bitsA] at h97 hk
 rw [w162 rfl]
 conv=>lhs;arg 2;whnf
 simp +contextual -implicitDefEqProofs (maxSteps:=9^9) only [↓wkA,↓lv162,↓fz162,wuH,↓reduceIte,xA,xB,xC,xD,xE,xF,reduceCtorEq,xH,xI,xJ,xK,xL,xM,xN,xO,h97,hk,bitsA,wbr]
theorem run162{v:LI}(hp:isP v=true)(h0:∀ b∈v,(0:Int)≤b)(q:knownR v=true):evW 162 [bitsA v] []=oR (.tup [.int .u64 (valN v),okE]):=by
 have h97:=run97 (isP_lt hp)
 rw [isP_all hp h0] at h97
 have hk:=run251 hp h0
 rw [q] at hk
 simp only [bitsA] at h97 hk
 rw [w162 rfl]
 conv=>lhs;arg 2;whnf
 simp +contextual -implicitDefEqProofs (maxSteps:=9^9) only [↓wkA,↓lv162,↓fz162,wuH,↓reduceIte,xA,xB,xC,xD,xE,xF,reduceCtorEq,xH,xI,xJ,xK,xL,xM,xN,xO,h97,hk,bitsA,wbr]
 refine(lpX_code (c':=lp Tryz.f162 0) (by kernel_rfl)).trans ?_
 rw [lq162_0]
 try simp +contextual -implicitDefEqProofs (maxSteps:=9^9) only [↓wkA,↓lv162,↓fz162,wuH,↓reduceIte,xA,xB,xC,xD,xE,xF,reduceCtorEq,xH,xI,xJ,xK,xL,xM,xN,xO,h97,hk,wbr]
 refine(loop162 (bin_of q h0) (isP_len hp).2 (X:=fun z=>oR (.tup [.int .u64 z,okE])) ?_ v.length 0 0 (by omega) (by simp [valN])).trans ?_
 ·intro fr nx hlk
  simp +contextual -implicitDefEqProofs (maxSteps:=9^9) only [↓wkA,↓lv162,↓fz162,wuH,↓reduceIte,xA,xB,xC,xD,xE,xF,reduceCtorEq,xH,xI,xJ,xK,xL,xM,xN,xO,hlk,wbr]
 ·rfl
theorem run168x0{u v:LI}(hu:isP u=true)(hv:isP v=true)(u0:∀ b∈u,(0:Int)≤b)(v0:∀ b∈v,(0:Int)≤b)(hl:u.length=v.length)(q0:(!knownR u)=true):evW 168 [bitsA u,bitsA v] []=oR (.tup [bitsA (List.replicate u.length 2),okE]):=by
 have h252:=run252 hu hv u0 v0 hl
 have hku:=run251 hu u0
 have hkv:=run251 hv v0
 have hlen:=isP_len hu
 have h253:=run253 (b:=2) (n:=u.length) (by omega) (by omega)
 have hd:decide (u.length≤(List.replicate u.length (2:Int)).length)=true:=by simp
 have htk:List.take u.length ((List.replicate u.length (2:Int)).map fun b=>[AV.int .u8 b])=(List.replicate u.length (2:Int)).map fun b=>[AV.int .u8 b]:=List.take_of_length_le (by simp)
 simp only [bitsA] at h252 hku hkv
 rw [w168 rfl]
 conv=>lhs;arg 2;whnf
 simp +contextual -implicitDefEqProofs (maxSteps:=9^9) only [↓wkA,↓lv168,↓fz168,wuH,↓reduceIte,xA,xB,xC,xD,xE,xF,reduceCtorEq,xH,xI,xJ,xK,xL,xM,xN,xO,q0,h252,hku,hkv,h253,bitsA,hd,htk,wbr]
theorem run168x1{u v:LI}(hu:isP u=true)(hv:isP v=true)(u0:∀ b∈u,(0:Int)≤b)(v0:∀ b∈v,(0:Int)≤b)(hl:u.length=v.length)(q0:(!knownR u)=false)(q1:(!knownR v)=true):evW 168 [bitsA u,bitsA v] []=oR (.tup [bitsA (List.replicate u.length 2),okE]):=by
 have h252:=run252 hu hv u0 v0 hl
 have hku:=run251 hu u0
 have hkv:=run251 hv v0
 have hlen:=isP_len hu
 have h253:=run253 (b:=2) (n:=u.length) (by omega) (by omega)
 have hd:decide (u.length≤(List.replicate u.length (2:Int)).length)=true:=by simp
 have htk:List.take u.length ((List.replicate u.length (2:Int)).map fun b=>[AV.int .u8 b])=(List.replicate u.length (2:Int)).map fun b=>[AV.int .u8 b]:=List.take_of_length_le (by simp)
 simp only [bitsA] at h252 hku hkv
 rw [w168 rfl]
 conv=>lhs;arg 2;whnf
 simp +contextual -implicitDefEqProofs (maxSteps:=9^9) only [↓wkA,↓lv168,↓fz168,wuH,↓reduceIte,xA,xB,xC,xD,xE,xF,reduceCtorEq,xH,xI,xJ,xK,xL,xM,xN,xO,q0,q1,h252,hku,hkv,h253,bitsA,hd,htk,wbr]
theorem run168a{u v:LI}(hu:isP u=true)(hv:isP v=true)(u0:∀ b∈u,(0:Int)≤b)(v0:∀ b∈v,(0:Int)≤b)(hl:u.length=v.length)(q0:(!knownR u)=false)(q1:(!knownR v)=false):evW 168 [bitsA u,bitsA v] []=oR (.tup [bitsA (bitsR u.length (IntKind.i64.wrap (IntKind.u64.wrap (valN u*valN v)))),okE]):=by
 have h252:=run252 hu hv u0 v0 hl
 have hku:=run251 hu u0
 have hkv:=run251 hv v0
 have hlen:=isP_len hu
 have h253:=run253 (b:=2) (n:=u.length) (by omega) (by omega)
 have hd:decide (u.length≤(List.replicate u.length (2:Int)).length)=true:=by simp
 have htk:List.take u.length ((List.replicate u.length (2:Int)).map fun b=>[AV.int .u8 b])=(List.replicate u.length (2:Int)).map fun b=>[AV.int .u8 b]:=List.take_of_length_le (by simp)
 simp only [bitsA] at h252 hku hkv
 have a162:=run162 hu u0 (not_f q0)
 have b162:=run162 hv v0 (not_f q1)
 have h255:=run255 (n:=u.length) (z:=IntKind.i64.wrap (IntKind.u64.wrap (valN u*valN v))) (by simp [IntKind.wrap,IntKind.bits,IntKind.signed];omega) (by omega) (by omega)
 simp only [bitsA] at a162 b162 h255
 rw [w168 rfl]
 conv=>lhs;arg 2;whnf
 simp +contextual -implicitDefEqProofs (maxSteps:=9^9) only [↓wkA,↓lv168,↓fz168,wuH,↓reduceIte,xA,xB,xC,xD,xE,xF,reduceCtorEq,xH,xI,xJ,xK,xL,xM,xN,xO,h252,hku,hkv,h253,bitsA,hd,htk,q0,q1,a162,b162,h255,wbr]
theorem wrap_both(k:Int):∃ t,IntKind.i64.wrap (IntKind.u64.wrap k)=k+18446744073709551616*t:=by
 refine⟨(IntKind.i64.wrap (IntKind.u64.wrap k)-k) / 18446744073709551616,?_⟩
 simp [IntKind.wrap,IntKind.bits,IntKind.signed]
 omega
theorem bitsR_both{n:Nat}{k:Int}(hn:n≤64):bitsR n (IntKind.i64.wrap (IntKind.u64.wrap k))=bitsR n k:=by
 obtain⟨t,ht⟩:=wrap_both k
 rw [ht,show (18446744073709551616:Int)*t=2^n*(2^(64-n)*t) by rw [← Int.mul_assoc,← Int.pow_add,show n+(64-n)=64 by omega];rfl,bitsR_add]
theorem mul_eq{u v:LI}(hu:isP u=true)(hv:isP v=true)(u0:∀ b∈u,(0:Int)≤b)(v0:∀ b∈v,(0:Int)≤b)(hl:u.length=v.length):cmpF (fun x y=>IntKind.u64.wrap (x*y)) u v=br (knownR u&&knownR v) (bitsR u.length (IntKind.i64.wrap (IntKind.u64.wrap (valN u*valN v)))) (List.replicate u.length 2):=by
 unfold cmpF
 rw [known_eq hu,known_eq hv]
 have hlen:=isP_len hu
 cases q0:knownR u with
 | false=>rfl
 | true =>
   cases q1:knownR v with
   | false=>rfl
   | true =>
     rw [num_val (bin_of q0 u0) (by omega),num_val (bin_of q1 v0) (by omega),bits_eq (by omega),bitsR_both (by omega)]
theorem ref_add{u v:LI}(hu:isP u=true)(hv:isP v=true)(u0:∀ b∈u,(0:Int)≤b)(v0:∀ b∈v,(0:Int)≤b)(hl:u.length=v.length):evW 166 [bitsA u,bitsA v] []=oR (.tup [bitsA (cmpF (fun x y=>IntKind.u64.wrap (x+y)) u v),okE]):=by
 rw [add_eq hu hv u0 v0 hl]
 cases q0:(!knownR u) with
 | true=>rw [not_t q0];exact run166x0 hu hv u0 v0 hl q0
 | false =>
 cases q1:(!knownR v) with
 | true=>rw [not_f q0,not_t q1];exact run166x1 hu hv u0 v0 hl q0 q1
 | false=>rw [not_f q0,not_f q1];exact run166a hu hv u0 v0 hl q0 q1
theorem ref_sub{u v:LI}(hu:isP u=true)(hv:isP v=true)(u0:∀ b∈u,(0:Int)≤b)(v0:∀ b∈v,(0:Int)≤b)(hl:u.length=v.length):evW 167 [bitsA u,bitsA v] []=oR (.tup [bitsA (cmpF (fun x y=>IntKind.u64.wrap (x-y)) u v),okE]):=by
 rw [sub_eq hu hv u0 v0 hl]
 cases q0:(!knownR u) with
 | true=>rw [not_t q0];exact run167x0 hu hv u0 v0 hl q0
 | false =>
 cases q1:(!knownR v) with
 | true=>rw [not_f q0,not_t q1];exact run167x1 hu hv u0 v0 hl q0 q1
 | false=>rw [not_f q0,not_f q1];exact run167a hu hv u0 v0 hl q0 q1
theorem ref_mul{u v:LI}(hu:isP u=true)(hv:isP v=true)(u0:∀ b∈u,(0:Int)≤b)(v0:∀ b∈v,(0:Int)≤b)(hl:u.length=v.length):evW 168 [bitsA u,bitsA v] []=oR (.tup [bitsA (cmpF (fun x y=>IntKind.u64.wrap (x*y)) u v),okE]):=by
 rw [mul_eq hu hv u0 v0 hl]
 cases q0:(!knownR u) with
 | true=>rw [not_t q0];exact run168x0 hu hv u0 v0 hl q0
 | false =>
 cases q1:(!knownR v) with
 | true=>rw [not_f q0,not_t q1];exact run168x1 hu hv u0 v0 hl q0 q1
 | false=>rw [not_f q0,not_f q1];exact run168a hu hv u0 v0 hl q0 q1
theorem run164add{a b:Int}(ha:isI a=true)(hb:isI b=true):evW 164 [.str [43],iA a,iA b] []=oR (.tup [iA (intN addI false a b),iA (intE addI false a b)]):=by
 have h1:=run98 (k:=a)
 have h2:=run98 (k:=b)
 rw [ha] at h1
 rw [hb] at h2
 have h3:=run98 (k:=addI a b)
 unfold intN intE
 rw [ha,hb]
 simp only [addI] at h3 ⊢
 rw [w164 rfl]
 conv=>lhs;arg 2;whnf
 simp +contextual -implicitDefEqProofs (maxSteps:=9^9) only [↓wkA,↓lv164,↓fz164,wuH,↓reduceIte,xA,xB,xC,xD,xE,xF,reduceCtorEq,xH,xI,xJ,xK,xL,xM,xN,xO,h1,h2,h3,addI,wbr]
 all_goals skip
theorem run164sub{a b:Int}(ha:isI a=true)(hb:isI b=true):evW 164 [.str [45],iA a,iA b] []=oR (.tup [iA (intN subI false a b),iA (intE subI false a b)]):=by
 have h1:=run98 (k:=a)
 have h2:=run98 (k:=b)
 rw [ha] at h1
 rw [hb] at h2
 have h3:=run98 (k:=subI a b)
 unfold intN intE
 rw [ha,hb]
 simp only [subI] at h3 ⊢
 rw [w164 rfl]
 conv=>lhs;arg 2;whnf
 simp +contextual -implicitDefEqProofs (maxSteps:=9^9) only [↓wkA,↓lv164,↓fz164,wuH,↓reduceIte,xA,xB,xC,xD,xE,xF,reduceCtorEq,xH,xI,xJ,xK,xL,xM,xN,xO,h1,h2,h3,subI,wbr]
 all_goals skip
theorem run164mul{a b:Int}(ha:isI a=true)(hb:isI b=true):evW 164 [.str [42],iA a,iA b] []=oR (.tup [iA (intN mulI false a b),iA (intE mulI false a b)]):=by
 have h1:=run98 (k:=a)
 have h2:=run98 (k:=b)
 rw [ha] at h1
 rw [hb] at h2
 have h3:=run98 (k:=mulI a b)
 unfold intN intE
 rw [ha,hb]
 simp only [mulI] at h3 ⊢
 rw [w164 rfl]
 conv=>lhs;arg 2;whnf
 simp +contextual -implicitDefEqProofs (maxSteps:=9^9) only [↓wkA,↓lv164,↓fz164,wuH,↓reduceIte,xA,xB,xC,xD,xE,xF,reduceCtorEq,xH,xI,xJ,xK,xL,xM,xN,xO,h1,h2,h3,mulI,wbr]
 all_goals skip
theorem run148ltG:(∀{a b:Int},evW 148 [.str [60],iA a,iA b] []=oR (.tup [vl 2 (br (decide (a<b)) 1 0) (.sl 1 []),okE]))∧(∀{a b:Int},evW 148 [.str [60,61],iA a,iA b] []=oR (.tup [vl 2 (br (decide (a≤b)) 1 0) (.sl 1 []),okE]))∧(∀{a b:Int},evW 148 [.str [62],iA a,iA b] []=oR (.tup [vl 2 (br (decide (b<a)) 1 0) (.sl 1 []),okE]))∧(∀{a b:Int},evW 148 [.str [62,61],iA a,iA b] []=oR (.tup [vl 2 (br (decide (b≤a)) 1 0) (.sl 1 []),okE])):=by
 refine⟨?_,?_,?_,?_⟩<;>intros<;>rw [w148 rfl]<;>conv=>lhs;arg 2;whnf
 all_goals simp +contextual -implicitDefEqProofs (maxSteps:=9^9) only [↓wkA,↓lv148,↓fz148,wuH,↓reduceIte,xA,xB,xC,xD,xE,xF,reduceCtorEq,xH,xI,xJ,xK,xL,xM,xN,xO,run150,wbr]
def run148lt:=@run148ltG.1
def run148le:=@run148ltG.2.1
def run148gt:=@run148ltG.2.2.1
def run148ge:=@run148ltG.2.2.2
theorem run161ltG:(∀{c:Int},evW 161 [.str [60],iA c] []=oR (.bool (decide (c<0))))∧(∀{c:Int},evW 161 [.str [60,61],iA c] []=oR (.bool (decide (c≤0))))∧(∀{c:Int},evW 161 [.str [62],iA c] []=oR (.bool (decide (0<c))))∧(∀{c:Int},evW 161 [.str [62,61],iA c] []=oR (.bool (decide (0≤c)))):=by
 refine⟨?_,?_,?_,?_⟩<;>intros<;>rw [w161 rfl]<;>conv=>lhs;arg 2;whnf
 all_goals simp +contextual -implicitDefEqProofs (maxSteps:=9^9) only [↓wkA,↓lv161,↓fz161,wuH,↓reduceIte,xA,xB,xC,xD,xE,xF,reduceCtorEq,xH,xI,xJ,xK,xL,xM,xN,xO,wbr]
def run161lt:=@run161ltG.1
def run161le:=@run161ltG.2.1
def run161gt:=@run161ltG.2.2.1
def run161ge:=@run161ltG.2.2.2
theorem run158{b:Bool}:evW 158 [.bool b] []=oR (vl 2 (br b 1 0) (.sl 1 [])):=by
 rw [w158 rfl]
 conv=>lhs;arg 2;whnf
 simp +contextual -implicitDefEqProofs (maxSteps:=9^9) only [↓wkA,↓lv158,↓fz158,wuH,↓reduceIte,xA,xB,xC,xD,xE,xF,reduceCtorEq,xH,xI,xJ,xK,xL,xM,xN,xO,br_true,br_false,wbr]
end Go.Proofs.YtdhcgankmhpgeaaGreat.M
