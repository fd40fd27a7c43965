import Derived.Test.YtdhcgankmhpgeaaGreatB28
set_option linter.all false
namespace Go.Proofs.YtdhcgankmhpgeaaGreat.M
open Go
open Nat renaming reduceEqDiff → xA, reduceLT → xB, reduceAdd → xC, reduceMul → xD, reduceSub → xE, reduceDiv → xF, reduceLeDiff → xN
open Int renaming reduceAdd → xH, reduceLE → xI, reduceLT → xJ, reduceToNat → xK, reduceEq → xL, reduceBEq → xM
open UInt8 renaming reduceToNat → xO
set_option maxRecDepth 100000
set_option maxHeartbeats 4000000
attribute [local congr] br_congr ob2_congr cnd_congr gdK_congr ob_congr clK_congr finK_congr reg_congr pkK_congr kTK_congr dlT_congr gck_congr iff2_congr sel_congr dPn_congr apJ_congr nmK_congr kTo_congr fzO_congr rcK_congr lvB_congr crK_congr cdB_congr
theorem run25{k l:Int}:evW 25 [tyA k l,tyA k l] []=oR (.bool true):=by
 have hk:(k==k)=true:=beq_self_eq_true k
 have hl:(l==l)=true:=beq_self_eq_true l
 rw [w25 rfl]
 conv=>lhs;arg 2;whnf
 simp +contextual -implicitDefEqProofs (maxSteps:=9^9) only [↓wkA,↓lv25,↓fz25,↓tbr25,wuH,↓reduceIte,xA,xB,xC,xD,xE,xF,reduceCtorEq,xH,xI,xJ,xK,xL,xM,xN,xO,hk,hl,wbr]
 refine(lpX_code (c':=lp Tryz.f25 0) (by kernel_rfl)).trans ?_
 rw [lq25_0]
 try simp +contextual -implicitDefEqProofs (maxSteps:=9^9) only [↓wkA,↓lv25,↓fz25,↓tbr25,wuH,↓reduceIte,xA,xB,xC,xD,xE,xF,reduceCtorEq,xH,xI,xJ,xK,xL,xM,xN,xO,hk,hl,wbr]
 unfold lpN
 conv=>lhs;arg 2;whnf
 simp +contextual -implicitDefEqProofs (maxSteps:=9^9) only [↓wkA,↓lv25,↓fz25,↓tbr25,wuH,↓reduceIte,xA,xB,xC,xD,xE,xF,reduceCtorEq,xH,xI,xJ,xK,xL,xM,xN,xO,hk,hl,wbr]
 refine(lpX_code (c':=lp Tryz.f25 1) (by kernel_rfl)).trans ?_
 rw [lq25_1]
 try simp +contextual -implicitDefEqProofs (maxSteps:=9^9) only [↓wkA,↓lv25,↓fz25,↓tbr25,wuH,↓reduceIte,xA,xB,xC,xD,xE,xF,reduceCtorEq,xH,xI,xJ,xK,xL,xM,xN,xO,hk,hl,wbr]
 unfold lpN
 conv=>lhs;arg 2;whnf
 simp +contextual -implicitDefEqProofs (maxSteps:=9^9) only [↓wkA,↓lv25,↓fz25,↓tbr25,wuH,↓reduceIte,xA,xB,xC,xD,xE,xF,reduceCtorEq,xH,xI,xJ,xK,xL,xM,xN,xO,hk,hl,wbr]
end Go.Proofs.YtdhcgankmhpgeaaGreat.M
namespace Go.Proofs.YtdhcgankmhpgeaaGreat.M
open Go
set_option maxRecDepth 100000
set_option maxHeartbeats 4000000
attribute [local congr] br_congr ob2_congr cnd_congr gdK_congr ob_congr clK_congr finK_congr reg_congr pkK_congr kTK_congr dlT_congr gck_congr iff2_congr sel_congr dPn_congr apJ_congr nmK_congr kTo_congr fzO_congr rcK_congr lvB_congr crK_congr cdB_congr
theorem tm_em(a:Int){c:Int}(h:0<c):(a.tmod c)%c=a%c:=by
 have:=Int.tmod_add_mul_tdiv a c
 conv=>rhs;rw [← this]
 rw [Int.add_mul_emod_self_left]
theorem fmod_pos(a:Int){c:Int}(h:0<c):(a.tmod c+c).tmod c=a.fmod c:=by
 have h1 : -c<a.tmod c:=by
  have:=Int.lt_tmod_of_pos a h
  omega
 rw [Int.tmod_eq_emod_of_nonneg (by omega),Int.add_emod_right,tm_em a h,Int.fmod_eq_emod_of_nonneg _ (by omega)]
theorem fmod_neg_neg(a c:Int):a.fmod (-c) = -((-a).fmod c):=by
 have h1:=Int.mul_fdiv_add_fmod a (-c)
 have h2:=Int.mul_fdiv_add_fmod (-a) c
 have h3:a.fdiv (-c)=(-a).fdiv c:=by
  have:=Int.neg_fdiv_neg (-a) c
  rwa [Int.neg_neg] at this
 rw [h3,Int.neg_mul] at h1
 omega
theorem fmod_ref(a:Int){b:Int}(h:b≠0):(a.tmod b+b).tmod b=a.fmod b:=by
 by_cases hb:0<b
 ·exact fmod_pos a hb
 ·obtain⟨c,rfl⟩:∃ c,b = -c:=⟨-b,by omega⟩
  have hc:0<c:=by omega
  have e:=fmod_pos (-a) hc
  rw [Int.neg_tmod] at e
  rw [Int.tmod_neg,Int.tmod_neg,show a.tmod c + -c = -(-(a.tmod c)+c) by omega,Int.neg_tmod,e,fmod_neg_neg]
theorem fdiv_ref(a:Int){b:Int}(h:b≠0):(a-a.fmod b).tdiv b=a.fdiv b:=by
 have h1:=Int.mul_fdiv_add_fmod a b
 rw [show a-a.fmod b=b*a.fdiv b by omega,Int.mul_tdiv_cancel_left _ h]
open Nat renaming reduceEqDiff → xA, reduceLT → xB, reduceAdd → xC, reduceMul → xD, reduceSub → xE, reduceDiv → xF, reduceLeDiff → xN
open Int renaming reduceAdd → xH, reduceLE → xI, reduceLT → xJ, reduceToNat → xK, reduceEq → xL, reduceBEq → xM
open UInt8 renaming reduceToNat → xO
theorem isI_b{a:Int}(h:isI a=true) : -2147483648≤a∧a≤2147483647:=by
 unfold isI at h
 simpa only [Bool.and_eq_true,decide_eq_true_eq] using h
theorem fmod_b(a:Int){b:Int}(h:b≠0):(0<b→0≤a.fmod b∧a.fmod b<b)∧(b<0→b<a.fmod b∧a.fmod b≤0):=by
 refine⟨fun hb=>⟨Int.fmod_nonneg_of_pos _ hb,Int.fmod_lt_of_pos _ hb⟩,fun hb=>?_⟩
 obtain⟨c,rfl⟩:∃ c,b = -c:=⟨-b,by omega⟩
 rw [fmod_neg_neg]
 have h1:=Int.fmod_nonneg_of_pos (-a) (show 0<c by omega)
 have h2:=Int.fmod_lt_of_pos (-a) (show 0<c by omega)
 omega
theorem fdiv_b{a b:Int}(ha:isI a=true)(hb:isI b=true)(h:b≠0) : -4294967296≤a.fdiv b∧a.fdiv b≤4294967296 ∧ -4294967296≤b*a.fdiv b∧b*a.fdiv b≤4294967296:=by
 have h1:=Int.mul_fdiv_add_fmod a b
 have h2:=fmod_b a h
 have a1:=isI_b ha
 have b1:=isI_b hb
 have h3 : -4294967296≤b*a.fdiv b∧b*a.fdiv b≤4294967296:=by
  rcases Int.lt_or_lt_of_ne h with hb|hb
  ·have:=h2.2 hb;omega
  ·have:=h2.1 hb;omega
 have h4:(b*a.fdiv b).natAbs=b.natAbs*(a.fdiv b).natAbs:=Int.natAbs_mul _ _
 have h5:(a.fdiv b).natAbs≤b.natAbs*(a.fdiv b).natAbs:=Nat.le_mul_of_pos_left _ (by omega)
 omega
theorem tmod_b(a:Int){b:Int}(h:b≠0):(a.tmod b).natAbs<b.natAbs:=by
 rw [Int.natAbs_tmod]
 exact Nat.mod_lt _ (by omega)
theorem floorF_eq{a b:Int}(ha:isI a=true)(hb:isI b=true)(h:b≠0):floorF a b=a.fdiv b:=by
 have h1:=fdiv_b ha hb h
 have e:a.fdiv b=a.tdiv b-if b∣a then 0 else if 0≤a then (if 0≤b then 0 else 1) else if 0≤b then 1 else 0:=by
  rw [@Int.fdiv_eq_tdiv a b]
  by_cases q:0≤b
  ·rw [Int.sign_eq_one_of_pos (show 0<b by omega)]
   simp only [q,if_true]
  ·rw [Int.sign_eq_neg_one_of_neg (show b<0 by omega)]
   simp only [q,if_false]
   rfl
 have h2 : -4294967298≤a.tdiv b∧a.tdiv b≤4294967298:=by
  rw [e] at h1
  split at h1
  ·omega
  ·split at h1<;>split at h1<;>omega
 have w1:IntKind.i64.wrap (a.tdiv b)=a.tdiv b:=wrap_i64 (by omega) (by omega)
 have w2:IntKind.i64.wrap (a.tdiv b-1)=a.tdiv b-1:=wrap_i64 (by omega) (by omega)
 unfold floorF
 rw [w1,w2,e]
 by_cases hd:b∣a
 ·rw [if_pos hd,Int.dvd_iff_tmod_eq_zero.1 hd]
  simp [br]
 ·rw [if_neg hd]
  have hz:(a.tmod b==0)=false:=by
   simp only [beq_eq_false_iff_ne]
   exact fun he=>hd (Int.dvd_iff_tmod_eq_zero.2 he)
  rw [hz]
  by_cases p:0≤a<;>by_cases q:0≤b
  ·rw [decide_eq_false (show ¬ a<0 by omega),decide_eq_false (show ¬ b<0 by omega)]
   simp [p,q,br]
  ·rw [decide_eq_false (show ¬ a<0 by omega),decide_eq_true (show b<0 by omega)]
   simp [p,q,br]
  ·rw [decide_eq_true (show a<0 by omega),decide_eq_false (show ¬ b<0 by omega)]
   simp [p,q,br]
  ·rw [decide_eq_true (show a<0 by omega),decide_eq_true (show b<0 by omega)]
   simp [p,q,br]
theorem modI_eq{a b:Int}(ha:isI a=true)(hb:isI b=true)(h:b≠0):modI a b=a.fmod b:=by
 have h1:=fdiv_b ha hb h
 have a1:=isI_b ha
 have h2:=Int.mul_fdiv_add_fmod a b
 have e1:IntKind.i64.wrap (b*a.fdiv b)=b*a.fdiv b:=wrap_i64 (by omega) (by omega)
 unfold modI
 rw [floorF_eq ha hb h,e1,wrap_i64 (by omega) (by omega)]
 omega
theorem run164divz{a b:Int}(ha:isI a=true)(hb:isI b=true)(z:(b==0)=true):evW 164 [.str [47],iA a,iA b] []=oR (.tup [iA (intN floorF true a b),iA (intE floorF true a b)]):=by
 have h1:=run98 (k:=a)
 have h2:=run98 (k:=b)
 rw [ha] at h1
 rw [hb] at h2
 unfold intN intE
 rw [ha,hb,z]
 rw [w164 rfl]
 conv=>lhs;arg 2;whnf
 simp +contextual -implicitDefEqProofs (maxSteps:=9^9) only [↓wkA,↓lv164,↓fz164,wuH,↓reduceIte,xA,xB,xC,xD,xE,xF,reduceCtorEq,xH,xI,xJ,xK,xL,xM,xN,xO,h1,h2,z,br_true,br_false,wbr]
theorem run164div{a b:Int}(ha:isI a=true)(hb:isI b=true)(z:(b==0)=false):evW 164 [.str [47],iA a,iA b] []=oR (.tup [iA (intN floorF true a b),iA (intE floorF true a b)]):=by
 have h1:=run98 (k:=a)
 have h2:=run98 (k:=b)
 rw [ha] at h1
 rw [hb] at h2
 have h:b≠0:=by simpa using z
 have h3:=run98 (k:=a.fdiv b)
 unfold intN intE
 rw [ha,hb,z,floorF_eq ha hb h]
 have f1:=fmod_b a h
 have f2:=fdiv_b ha hb h
 have f3:=tmod_b a h
 have a1:=isI_b ha
 have b1:=isI_b hb
 have w1:IntKind.i64.wrap (a.tmod b+b)=a.tmod b+b:=wrap_i64 (by omega) (by omega)
 have e1:=fmod_ref a h
 have e2:=fdiv_ref a h
 have w2:IntKind.i64.wrap (a-a.fmod b)=a-a.fmod b:=wrap_i64 (by rcases Int.lt_or_lt_of_ne h with q|q<;>simp only [q,true_implies] at f1<;>omega) (by rcases Int.lt_or_lt_of_ne h with q|q<;>simp only [q,true_implies] at f1<;>omega)
 have w3:IntKind.i64.wrap (a.fdiv b)=a.fdiv b:=wrap_i64 (by omega) (by omega)
 rw [w164 rfl]
 conv=>lhs;arg 2;whnf
 simp +contextual -implicitDefEqProofs (maxSteps:=9^9) only [↓wkA,↓lv164,↓fz164,wuH,↓bin_quo,↓bin_rem,↓reduceIte,xA,xB,xC,xD,xE,xF,reduceCtorEq,xH,xI,xJ,xK,xL,xM,xN,xO,h1,h2,h3,z,w1,w2,w3,e1,e2,br_true,br_false,wbr]
theorem run164modz{a b:Int}(ha:isI a=true)(hb:isI b=true)(z:(b==0)=true):evW 164 [.str [109,111,100],iA a,iA b] []=oR (.tup [iA (intN modI true a b),iA (intE modI true a b)]):=by
 have h1:=run98 (k:=a)
 have h2:=run98 (k:=b)
 rw [ha] at h1
 rw [hb] at h2
 unfold intN intE
 rw [ha,hb,z]
 rw [w164 rfl]
 conv=>lhs;arg 2;whnf
 simp +contextual -implicitDefEqProofs (maxSteps:=9^9) only [↓wkA,↓lv164,↓fz164,wuH,↓reduceIte,xA,xB,xC,xD,xE,xF,reduceCtorEq,xH,xI,xJ,xK,xL,xM,xN,xO,h1,h2,z,br_true,br_false,wbr]
theorem run164mod{a b:Int}(ha:isI a=true)(hb:isI b=true)(z:(b==0)=false):evW 164 [.str [109,111,100],iA a,iA b] []=oR (.tup [iA (intN modI true a b),iA (intE modI true a b)]):=by
 have h1:=run98 (k:=a)
 have h2:=run98 (k:=b)
 rw [ha] at h1
 rw [hb] at h2
 have h:b≠0:=by simpa using z
 have h3:=run98 (k:=a.fmod b)
 unfold intN intE
 rw [ha,hb,z,modI_eq ha hb h]
 have f1:=fmod_b a h
 have f2:=fdiv_b ha hb h
 have f3:=tmod_b a h
 have a1:=isI_b ha
 have b1:=isI_b hb
 have w1:IntKind.i64.wrap (a.tmod b+b)=a.tmod b+b:=wrap_i64 (by omega) (by omega)
 have e1:=fmod_ref a h
 have e2:=fdiv_ref a h
 have w2:IntKind.i64.wrap (a-a.fmod b)=a-a.fmod b:=wrap_i64 (by rcases Int.lt_or_lt_of_ne h with q|q<;>simp only [q,true_implies] at f1<;>omega) (by rcases Int.lt_or_lt_of_ne h with q|q<;>simp only [q,true_implies] at f1<;>omega)
 have w3:IntKind.i64.wrap (a.fdiv b)=a.fdiv b:=wrap_i64 (by omega) (by omega)
 rw [w164 rfl]
 conv=>lhs;arg 2;whnf
 simp +contextual -implicitDefEqProofs (maxSteps:=9^9) only [↓wkA,↓lv164,↓fz164,wuH,↓bin_quo,↓bin_rem,↓reduceIte,xA,xB,xC,xD,xE,xF,reduceCtorEq,xH,xI,xJ,xK,xL,xM,xN,xO,h1,h2,h3,z,w1,w2,w3,e1,e2,br_true,br_false,wbr]
end Go.Proofs.YtdhcgankmhpgeaaGreat.M
namespace Go.Proofs.YtdhcgankmhpgeaaGreat.M
open Go
set_option maxRecDepth 100000
set_option maxHeartbeats 4000000
attribute [local congr] br_congr ob2_congr cnd_congr gdK_congr ob_congr clK_congr finK_congr reg_congr pkK_congr kTK_congr dlT_congr gck_congr iff2_congr sel_congr dPn_congr apJ_congr nmK_congr kTo_congr fzO_congr rcK_congr lvB_congr crK_congr cdB_congr
theorem bin_take{v:LI}(h:Bin v)(n:Nat):Bin (v.take n):=fun x hx=>h x (List.mem_of_mem_take hx)
theorem valN_snoc:∀(l:LI)(x:Int),valN (l++[x])=valN l+x*2^l.length
 | [],x=>by simp [valN]
 | a::l,x=>by
   rw [List.cons_append,valN_cons,valN_snoc l x,valN_cons,List.length_cons,Int.pow_succ]
   have:x*(2^l.length*2)=2*(x*2^l.length):=by rw [← Int.mul_assoc,Int.mul_comm]
   omega
def befF(u v:LI):Nat→Bool
 | 0=>false
 | m+1=>br (u[m]?==v[m]?) (befF u v m) (u[m]?==some 0)
theorem take_snoc{u:LI}{m:Nat}{x:Int}(h:u[m]?=some x):u.take (m+1)=u.take m++[x]:=by
 rw [List.take_succ,h]
 rfl
theorem bef_val{u v:LI}(hu:Bin u)(hv:Bin v)(hl:u.length=v.length):∀ m,m≤u.length→befF u v m=decide (valN (u.take m)<valN (v.take m))
 | 0,_=>by simp [befF,valN]
 | m+1,h=>by
   obtain⟨x,hx⟩:∃ x,u[m]?=some x:=⟨_,List.getElem?_eq_getElem (by omega)⟩
   obtain⟨y,hy⟩:∃ y,v[m]?=some y:=⟨_,List.getElem?_eq_getElem (by omega)⟩
   have ih:=bef_val hu hv hl m (by omega)
   have b1:=valN_lt (bin_take hu m)
   have b2:=valN_lt (bin_take hv m)
   rw [List.length_take,Nat.min_eq_left (by omega)] at b1 b2
   rw [befF,take_snoc hx,take_snoc hy,valN_snoc,valN_snoc,List.length_take,List.length_take,Nat.min_eq_left (by omega),Nat.min_eq_left (by omega),hx,hy,ih]
   generalize (2:Int)^m=P at *
   rcases hu x (List.mem_of_getElem? hx) with rfl|rfl<;>rcases hv y (List.mem_of_getElem? hy) with rfl|rfl<;>simp [br]<;>omega
theorem top_val{u:LI}(hu:Bin u){n:Nat}(hn:u.length=n+1){x:Int}(hx:u[n]?=some x):∃ z,valN u=z+x*2^n∧0≤z∧z<2^n∧z=valN (u.take n):=by
 have h:=take_snoc hx
 rw [show u.take (n+1)=u from List.take_of_length_le (by omega)] at h
 have b1:=valN_lt (bin_take hu n)
 rw [List.length_take,Nat.min_eq_left (by omega)] at b1
 refine⟨_,?_,b1.1,b1.2,rfl⟩
 conv=>lhs;rw [h]
 rw [valN_snoc,List.length_take,Nat.min_eq_left (by omega)]
def sgnF(u v:LI):Bool:=decide ((IntKind.i64.wrap (IntKind.u64.wrap (valN u*2^(64-u.length))))<IntKind.i64.wrap (IntKind.u64.wrap (valN v*2^(64-v.length))))
theorem shl_val{n:Nat}(h:n<64){z x:Int}(z0:0≤z)(z1:z<2^n)(hx:x=0∨x=1):IntKind.i64.wrap (IntKind.u64.wrap ((z+x*2^n)*2^(64-(n+1))))=(z-x*2^n)*2^(64-(n+1)):=by
 have hp:(2:Int)^n*2^(64-(n+1))=9223372036854775808:=by
  rw [← Int.pow_add,show n+(64-(n+1))=63 by omega]
  rfl
 have hq:(0:Int)<2^(64-(n+1)):=Int.pow_pos (by omega)
 generalize (2:Int)^(64-(n+1))=Q at *
 generalize (2:Int)^n=P at *
 have h1:z*Q<P*Q:=Int.mul_lt_mul_of_pos_right z1 hq
 have h0:0≤z*Q:=Int.mul_nonneg z0 (by omega)
 rw [hp] at h1
 rcases hx with rfl|rfl
 ·rw [Int.zero_mul,Int.add_zero,Int.sub_zero]
  simp [IntKind.wrap,IntKind.bits,IntKind.signed]
  omega
 ·rw [Int.one_mul,Int.add_mul,Int.sub_mul,hp]
  simp [IntKind.wrap,IntKind.bits,IntKind.signed]
  omega
theorem sgn_eq{u v:LI}(hu:Bin u)(hv:Bin v)(hl:u.length=v.length){n:Nat}(hn:u.length=n+1)(h64:n<64){x y:Int}(hx:u[n]?=some x)(hy:v[n]?=some y):sgnF u v=br (x==y) (befF u v (n+1)) (x==1):=by
 obtain⟨z,e1,p1,p2,p3⟩:=top_val hu hn hx
 obtain⟨w,f1,q1,q2,q3⟩:=top_val hv (hl▸hn) hy
 have hb:=bef_val hu hv hl n (by omega)
 rw [← p3,← q3] at hb
 have hx1:=hu x (List.mem_of_getElem? hx)
 have hy1:=hv y (List.mem_of_getElem? hy)
 unfold sgnF
 rw [← hl,hn,e1,f1,shl_val h64 p1 p2 hx1,shl_val h64 q1 q2 hy1]
 rw [befF,hx,hy,hb]
 have hq:(0:Int)<2^(64-(n+1)):=Int.pow_pos (by omega)
 rw [show decide ((z-x*2^n)*2^(64-(n+1))<(w-y*2^n)*2^(64-(n+1)))=decide (z-x*2^n<w-y*2^n) by
  rw [Bool.eq_iff_iff,decide_eq_true_eq,decide_eq_true_eq]
  exact⟨fun h=>Int.lt_of_mul_lt_mul_right h (by omega),fun h=>Int.mul_lt_mul_of_pos_right h hq⟩]
 generalize (2:Int)^n=P at *
 rcases hx1 with rfl|rfl<;>rcases hy1 with rfl|rfl<;>simp [br]<;>omega
open Nat renaming reduceEqDiff → xA, reduceLT → xB, reduceAdd → xC, reduceMul → xD, reduceSub → xE, reduceDiv → xF, reduceLeDiff → xN
open Int renaming reduceAdd → xH, reduceLE → xI, reduceLT → xJ, reduceToNat → xK, reduceEq → xL, reduceBEq → xM
open UInt8 renaming reduceToNat → xO
def op3(x:Int):Nat:=br (x==0) 0 (br (x==1) 1 2)
def opT(T:LI)(x y:Int):Int:=(T[3*op3 x+op3 y]?).getD 0
def gMap(T u v:LI)(i:Nat):Option Int:=(u[i]?).bind fun x=>(v[i]?).map fun y=>opT T x y
def tabs:List (LU×LI×LU):=[([97,110,100],[0,0,0,0,1,2,0,2,2],[48,48,48,48,48,49,120,120,48,120,120,120,48,120,120,120]),([111,114],[0,1,2,1,1,1,2,1,2],[48,49,120,120,49,49,49,49,120,49,120,120,120,49,120,120]),([120,111,114],[0,1,2,1,0,2,2,2,2],[48,49,120,120,49,48,120,120,120,120,120,120,120,120,120,120]),([110,97,110,100],[1,1,1,1,0,2,1,2,2],[49,49,49,49,49,48,120,120,49,120,120,120,49,120,120,120]),([110,111,114],[1,0,2,0,0,0,2,0,2],[49,48,120,120,48,48,48,48,120,48,120,120,120,48,120,120]),([120,110,111,114],[1,0,2,0,1,2,2,2,2],[49,48,120,120,48,49,120,120,120,120,120,120,120,120,120,120])]
theorem bit4{x:Int}(h:0≤x∧x≤3):x=0∨x=1∨x=2∨x=3:=by omega
theorem isP_bit{v:LI}(hp:isP v=true)(h0:∀ b∈v,(0:Int)≤b):Bit4 v:=fun x hx=>⟨h0 x hx,by
 unfold isP at hp
 simp only [Bool.and_eq_true,Bool.not_eq_true',List.any_eq_false] at hp
 have:=hp.2.2 x hx
 simpa using this⟩
theorem t9{T:LI}(h:T.length=9):∃ a b c d e f g i j,T=[a,b,c,d,e,f,g,i,j]:=by
 match T,h with
 | [a,b,c,d,e,f,g,i,j],_=>exact⟨_,_,_,_,_,_,_,_,_,rfl⟩
theorem run236_0:evW 236 [.int .u8 0] []=oR (.int .u8 0):=ev_le 20 236 _ _ _ (by kernel_rfl)
theorem run236_1:evW 236 [.int .u8 1] []=oR (.int .u8 1):=ev_le 20 236 _ _ _ (by kernel_rfl)
theorem run236_2:evW 236 [.int .u8 2] []=oR (.int .u8 2):=ev_le 20 236 _ _ _ (by kernel_rfl)
theorem run236_3:evW 236 [.int .u8 3] []=oR (.int .u8 2):=ev_le 20 236 _ _ _ (by kernel_rfl)
theorem tab_facts:∀ nm T z,(nm,T,z)∈tabs→T.length=9∧evW 234 [.str nm] []=oR (.tup [.agg (T.map fun b => .int .u8 b),.bool true])∧evW 249 [.str nm] []=oR (.tup [.str z,.bool true]) ∧
  ∀ x y,0≤x∧x≤3→0≤y∧y≤3→evW 250 [.str nm,.int .u8 x,.int .u8 y] []=oR (.tup [.int .u8 (opT T x y),okE]):=by
 intro nm T z h
 simp only [tabs,List.mem_cons,Prod.mk.injEq,List.not_mem_nil,or_false] at h
 rcases h with ⟨rfl,rfl,rfl⟩|⟨rfl,rfl,rfl⟩|⟨rfl,rfl,rfl⟩|⟨rfl,rfl,rfl⟩|⟨rfl,rfl,rfl⟩|⟨rfl,rfl,rfl⟩
 all_goals
  refine⟨rfl,ev_le 20 234 _ _ _ (by kernel_rfl),ev_le 20 249 _ _ _ (by kernel_rfl),fun x y hx hy=>?_⟩
  rcases bit4 hx with rfl|rfl|rfl|rfl<;>rcases bit4 hy with rfl|rfl|rfl|rfl<;>exact ev_le 20 250 _ _ _ (by kernel_rfl)
theorem run305{u v:LI}(hu:isP u=true)(hv:isP v=true)(hl:u.length=v.length):evW 305 [.row 0 0 2] [.arr 30 1 [[bitsA u],[bitsA v]]]=some (.ret (.bool true),[.arr 30 1 [[bitsA u],[bitsA v]]]):=by
 have h1:=run188 (isP_lt hu)
 have h2:=run188 (isP_lt hv)
 rw [hu] at h1
 rw [hv] at h2
 have e1:(v.length:Int)=u.length:=by omega
 simp only [bitsA] at h1 h2 ⊢
 rw [w305 rfl]
 conv=>lhs;arg 2;whnf
 simp +contextual -implicitDefEqProofs (maxSteps:=9^9) only [↓wkA,↓lv305,↓fz305,wuH,↓reduceIte,xA,xB,xC,xD,xE,xF,reduceCtorEq,xH,xI,xJ,xK,xL,xM,xN,xO,h1,h2,e1,bitsA,↓tyr323,↓tyz323,↓ld323,↓sto323,↓len323,↓ia323,↓sc323,↓bs323,↓mk323,↓ap323,wbr]
 refine(lpX_code (c':=lp Tryz.f305 0) (by kernel_rfl)).trans ?_
 rw [lq305_0]
 try simp +contextual -implicitDefEqProofs (maxSteps:=9^9) only [↓wkA,↓lv305,↓fz305,wuH,↓reduceIte,xA,xB,xC,xD,xE,xF,reduceCtorEq,xH,xI,xJ,xK,xL,xM,xN,xO,h1,h2,e1,bitsA,↓tyr323,↓tyz323,↓ld323,↓sto323,↓len323,↓ia323,↓sc323,↓bs323,↓mk323,↓ap323,wbr]
 unfold lpN
 conv=>lhs;arg 2;whnf
 simp +contextual -implicitDefEqProofs (maxSteps:=9^9) only [↓wkA,↓lv305,↓fz305,wuH,↓reduceIte,xA,xB,xC,xD,xE,xF,reduceCtorEq,xH,xI,xJ,xK,xL,xM,xN,xO,h1,h2,e1,bitsA,↓tyr323,↓tyz323,↓ld323,↓sto323,↓len323,↓ia323,↓sc323,↓bs323,↓mk323,↓ap323,lq305_0,wbr]
 unfold lpN
 conv=>lhs;arg 2;whnf
 simp +contextual -implicitDefEqProofs (maxSteps:=9^9) only [↓wkA,↓lv305,↓fz305,wuH,↓reduceIte,xA,xB,xC,xD,xE,xF,reduceCtorEq,xH,xI,xJ,xK,xL,xM,xN,xO,h1,h2,e1,bitsA,↓tyr323,↓tyz323,↓ld323,↓sto323,↓len323,↓ia323,↓sc323,↓bs323,↓mk323,↓ap323,lq305_0,wbr]
 unfold lpN
 conv=>lhs;arg 2;whnf
 simp +contextual -implicitDefEqProofs (maxSteps:=9^9) only [↓wkA,↓lv305,↓fz305,wuH,↓reduceIte,xA,xB,xC,xD,xE,xF,reduceCtorEq,xH,xI,xJ,xK,xL,xM,xN,xO,h1,h2,e1,bitsA,↓tyr323,↓tyz323,↓ld323,↓sto323,↓len323,↓ia323,↓sc323,↓bs323,↓mk323,↓ap323,lq305_0,wbr]
theorem ia253_0{hp:Hp}{b:Nat}:indexAddrD cfg.G hp 253 (.ptr b 0) (.int .u8 0)=some (.ptr b 0):=by kernel_rfl
theorem ia253_1{hp:Hp}{b:Nat}:indexAddrD cfg.G hp 253 (.ptr b 0) (.int .u8 1)=some (.ptr b 3):=by kernel_rfl
theorem ia253_2{hp:Hp}{b:Nat}:indexAddrD cfg.G hp 253 (.ptr b 0) (.int .u8 2)=some (.ptr b 6):=by kernel_rfl
theorem ia251_0_0{hp:Hp}{b:Nat}:indexAddrD cfg.G hp 251 (.ptr b 0) (.int .u8 0)=some (.ptr b 0):=by kernel_rfl
theorem ia251_0_1{hp:Hp}{b:Nat}:indexAddrD cfg.G hp 251 (.ptr b 0) (.int .u8 1)=some (.ptr b 1):=by kernel_rfl
theorem ia251_0_2{hp:Hp}{b:Nat}:indexAddrD cfg.G hp 251 (.ptr b 0) (.int .u8 2)=some (.ptr b 2):=by kernel_rfl
theorem ia251_1_0{hp:Hp}{b:Nat}:indexAddrD cfg.G hp 251 (.ptr b 3) (.int .u8 0)=some (.ptr b 3):=by kernel_rfl
theorem ia251_1_1{hp:Hp}{b:Nat}:indexAddrD cfg.G hp 251 (.ptr b 3) (.int .u8 1)=some (.ptr b 4):=by kernel_rfl
theorem ia251_1_2{hp:Hp}{b:Nat}:indexAddrD cfg.G hp 251 (.ptr b 3) (.int .u8 2)=some (.ptr b 5):=by kernel_rfl
theorem ia251_2_0{hp:Hp}{b:Nat}:indexAddrD cfg.G hp 251 (.ptr b 6) (.int .u8 0)=some (.ptr b 6):=by kernel_rfl
theorem ia251_2_1{hp:Hp}{b:Nat}:indexAddrD cfg.G hp 251 (.ptr b 6) (.int .u8 1)=some (.ptr b 7):=by kernel_rfl
theorem ia251_2_2{hp:Hp}{b:Nat}:indexAddrD cfg.G hp 251 (.ptr b 6) (.int .u8 2)=some (.ptr b 8):=by kernel_rfl
theorem loop244{a b c d e f g p q:Int}{u v:LI}(u4:Bit4 u)(v4:Bit4 v){n:Nat}(hb:n<100000)(hu:u.length=n)(hv:v.length=n){k:KK}{X:LI→OO}
  (h2:∀(xs:LI) fr nx,xs.length=n→look 10 fr=some (.row 1 0 n)→k (.exit 0) ⟨fr,[(0,.var 253 [.int .u8 a,.int .u8 b,.int .u8 c,.int .u8 d,.int .u8 e,.int .u8 f,.int .u8 g,.int .u8 p,.int .u8 q]),(1,.arr 162 1 (xs.map fun b=>[.int .u8 b]))],nx,[]⟩=X xs) :
  ∀(r i:Nat)(xs:LI),i+r=n→xs.length=n→lpN ⟨52,0,kpOf 244,tb244⟩ (lp Tryz.f244 0) ⟨[(1,bitsA u),(2,bitsA v),(8,.ptr 0 0),(10,.row 1 0 n),(30,iA n),(31,iA i)],[(0,.var 253 [.int .u8 a,.int .u8 b,.int .u8 c,.int .u8 d,.int .u8 e,.int .u8 f,.int .u8 g,.int .u8 p,.int .u8 q]),(1,.arr 162 1 (xs.map fun b=>[.int .u8 b]))],2,[]⟩ k=X (fillC (gMap [a,b,c,d,e,f,g,p,q] u v) r i xs)
 | 0,i,xs,hr,hx=>by
   have hi:decide ((i:Int)<(n:Nat))=false:=by simp;omega
   have h3:=fun fr nx=>h2 xs fr nx hx
   unfold lpN
   conv=>lhs;arg 2;whnf
   simp +contextual -implicitDefEqProofs (maxSteps:=9^9) only [↓wkA,↓lv244,↓fz244,↓tbr244,wuH,↓reduceIte,xA,xB,xC,xD,xE,xF,reduceCtorEq,xH,xI,xJ,xK,xL,xM,xN,xO,hi,h3,fillC,wbr]
 | r+1,i,xs,hr,hx=>by
   have hi:decide ((i:Int)<(n:Nat))=true:=by simp;omega
   have hi3:i<n:=by omega
   have hi4:n≤xs.length:=by omega
   obtain⟨z,hz⟩:∃ z,xs[i]?=some z:=⟨_,List.getElem?_eq_getElem (by omega)⟩
   obtain⟨x,hx1⟩:∃ x,u[i]?=some x:=⟨_,List.getElem?_eq_getElem (by omega)⟩
   obtain⟨y,hy1⟩:∃ y,v[i]?=some y:=⟨_,List.getElem?_eq_getElem (by omega)⟩
   have hw:IntKind.i64.wrap ((i:Int)+1)=((i+1:Nat):Int):=wrap_succ (by omega)
   have b1:=bit4 (u4 x (List.mem_of_getElem? hx1))
   have b2:=bit4 (v4 y (List.mem_of_getElem? hy1))
   have hg:gMap [a,b,c,d,e,f,g,p,q] u v i=some (opT [a,b,c,d,e,f,g,p,q] x y):=by unfold gMap;rw [hx1,hy1];rfl
   rw [fillC_some hg]
   have ih:=loop244 u4 v4 hb hu hv h2 r (i+1) (xs.set i (opT [a,b,c,d,e,f,g,p,q] x y)) (by omega) (by rw [List.length_set];exact hx)
   obtain⟨o,ho⟩:∃ o,o=opT [a,b,c,d,e,f,g,p,q] x y:=⟨_,rfl⟩
   rw [← ho] at ih ⊢
   simp only [bitsA] at ih
   rcases b1 with rfl|rfl|rfl|rfl<;>rcases b2 with rfl|rfl|rfl|rfl
   all_goals
    simp [opT,op3,br] at ho
    subst ho
    unfold lpN
    conv=>lhs;arg 2;whnf
    simp +contextual -implicitDefEqProofs (maxSteps:=9^9) only [↓wkA,↓lv244,↓fz244,↓tbr244,wuH,↓reduceIte,xA,xB,xC,xD,xE,xF,reduceCtorEq,xH,xI,xJ,xK,xL,xM,xN,xO,hi,hi3,hi4,hw,hz,hx1,hy1,bitsA,bitsA_get,ih,lq244_0,run236_0,run236_1,run236_2,run236_3,List.set_cons_zero,List.set_cons_succ,↓ld253,↓sto253,↓tyr253,↓tyz253,↓ld251,↓ia253_0,↓ia253_1,↓ia253_2,↓ia251_0_0,↓ia251_0_1,↓ia251_0_2,↓ia251_1_0,↓ia251_1_1,↓ia251_1_2,↓ia251_2_0,↓ia251_2_1,↓ia251_2_2,wbr]
def vAt(v:LI)(i:Nat):Int:=(v[i]?).getD 0
theorem run244{s:LU}{a b c d e f g p q:Int}(h234:evW 234 [.str s] []=oR (.tup [.agg [.int .u8 a,.int .u8 b,.int .u8 c,.int .u8 d,.int .u8 e,.int .u8 f,.int .u8 g,.int .u8 p,.int .u8 q],.bool true])){u v:LI}(hu:isP u=true)(hv:isP v=true)(u0:∀ b∈u,(0:Int)≤b)(v0:∀ b∈v,(0:Int)≤b)(hl:u.length=v.length):evW 244 [.str s,bitsA u,bitsA v] []=oR (.tup [bitsA (tabL u.length (gMap [a,b,c,d,e,f,g,p,q] u v)),okE]):=by
 have h305:=run305 hu hv hl
 have hlen:=isP_len hu
 have hm:decide ((0:Int)≤(u.length:Nat)∧((u.length:Nat):Int)≤1000000)=true:=by simp;omega
 rw [← fillC_tab]
 simp only [bitsA] at h305
 rw [w244 rfl]
 conv=>lhs;arg 2;whnf
 simp +contextual -implicitDefEqProofs (maxSteps:=9^9) only [↓wkA,↓lv244,↓fz244,↓tbr244,wuH,↓reduceIte,xA,xB,xC,xD,xE,xF,reduceCtorEq,xH,xI,xJ,xK,xL,xM,xN,xO,h234,h305,hm,rep8,bitsA,↓tyr323,↓tyz323,↓ld323,↓sto323,↓len323,↓ia323,↓sc323,↓bs323,↓mk323,↓ap323,List.set_cons_zero,List.set_cons_succ,↓ld253,↓sto253,↓tyr253,↓tyz253,wbr]
 refine(lpX_code (c':=lp Tryz.f244 0) (by kernel_rfl)).trans ?_
 rw [lq244_0]
 try simp +contextual -implicitDefEqProofs (maxSteps:=9^9) only [↓wkA,↓lv244,↓fz244,↓tbr244,wuH,↓reduceIte,xA,xB,xC,xD,xE,xF,reduceCtorEq,xH,xI,xJ,xK,xL,xM,xN,xO,h234,h305,hm,rep8,↓tyr323,↓tyz323,↓ld323,↓sto323,↓len323,↓ia323,↓sc323,↓bs323,↓mk323,↓ap323,List.set_cons_zero,List.set_cons_succ,↓ld253,↓sto253,↓tyr253,↓tyz253,wbr]
 refine(loop244 (isP_bit hu u0) (isP_bit hv v0) (n:=u.length) (by omega) rfl hl.symm (X:=fun xs=>oR (.tup [bitsA xs,okE])) ?_ u.length 0 (List.replicate u.length 0) (by omega) (by simp)).trans ?_
 ·intro xs fr nx hx hlk
  have hd:decide (u.length≤xs.length)=true:=by simp;omega
  have htk:List.take u.length (xs.map fun b=>[AV.int .u8 b])=xs.map fun b=>[AV.int .u8 b]:=List.take_of_length_le (by rw [List.length_map];omega)
  simp +contextual -implicitDefEqProofs (maxSteps:=9^9) only [↓wkA,↓lv244,↓fz244,↓tbr244,wuH,↓reduceIte,xA,xB,xC,xD,xE,xF,reduceCtorEq,xH,xI,xJ,xK,xL,xM,xN,xO,hlk,hd,htk,bitsA,wbr]
 ·rfl
theorem loop160{u v:LI}{s:LU}{T:LI}(hb:u.length≤100000)(u4:Bit4 u)(v4:Bit4 v)(hl:u.length=v.length)(h250:∀ x y,0≤x∧x≤3→0≤y∧y≤3→evW 250 [.str s,.int .u8 x,.int .u8 y] []=oR (.tup [.int .u8 (opT T x y),okE])){k:KK}{X:LI→OO}
  (h2:∀(xs:LI) fr nx,xs.length=u.length→1≤u.length→look 10 fr=some (.row 0 0 u.length)→k (.exit 0) ⟨fr,[(0,.arr 162 1 (xs.map fun b=>[.int .u8 b]))],nx,[]⟩=X xs) :
  ∀(rest:LI)(i:Nat)(xs:LI),u.drop i=rest→xs.length=i→1≤i→i≤u.length→lpN ⟨62,0,kpOf 160,tb160⟩ (lp Tryz.f160 0) ⟨[(0,.str s),(1,bitsA u),(2,bitsA v),(10,.row 0 0 i),(39,iA u.length),(40,iA i)],[(0,.arr 162 1 (xs.map fun b=>[.int .u8 b]))],1,[]⟩ k=X (xs++appF (fun i x=>opT T x (vAt v (i))) i rest)
 | [],i,xs,hd,hx,h1,hle=>by
   have he:i=u.length:=by
    have:=congrArg List.length hd
    simp at this
    omega
   have hi:decide ((i:Int)<(u.length:Nat))=false:=by simp;omega
   subst he
   have h3:=fun fr nx=>h2 xs fr nx hx h1
   rw [appF,List.append_nil]
   unfold lpN
   conv=>lhs;arg 2;whnf
   simp +contextual -implicitDefEqProofs (maxSteps:=9^9) only [↓wkA,↓lv160,↓fz160,↓tbr160,wuH,↓reduceIte,xA,xB,xC,xD,xE,xF,reduceCtorEq,xH,xI,xJ,xK,xL,xM,xN,xO,hi,h3,wbr]
 | x::rest,i,xs,hd,hx,h1,hle=>by
   have hlt:i<u.length:=by
    have:=congrArg List.length hd
    simp at this
    omega
   have hi:decide ((i:Int)<(u.length:Nat))=true:=by simp;omega
   have hxi:u[i]?=some x:=by
    have:=congrArg (·[0]?) hd
    simpa using this
   have hd2:=drop_nx hd
   have hw:IntKind.i64.wrap ((i:Int)+1)=((i+1:Nat):Int):=wrap_succ (by omega)
   have hlx:(xs.map fun b=>[AV.int .u8 b]).length=i:=by rw [List.length_map];exact hx
   have htk:List.take i (xs.map fun b=>[AV.int .u8 b])=xs.map fun b=>[AV.int .u8 b]:=List.take_of_length_le (by omega)
   have hms:decide (i+1≤most)=true:=by unfold most;simp;omega
   obtain⟨y,hy⟩:∃ y,v[i]?=some y:=⟨_,List.getElem?_eq_getElem (by omega)⟩
   have hy2:vAt v i=y:=by unfold vAt;rw [hy];rfl
   have h:evW 250 [.str s,.int .u8 x,.int .u8 y] []=oR (.tup [.int .u8 (opT T x (vAt v i)),okE]):=by
    rw [hy2]
    exact h250 x y (u4 x (List.mem_of_getElem? hxi)) (v4 y (List.mem_of_getElem? hy))
   rw [appF_cons]
   have ih:=loop160 hb u4 v4 hl h250 h2 rest (i+1) (xs++[opT T x (vAt v (i))]) hd2 (by simp;omega) (by omega) (by omega)
   rw [List.map_append,List.append_assoc] at ih
   simp only [List.map_cons,List.map_nil,bitsA] at ih
   unfold lpN
   conv=>lhs;arg 2;whnf
   simp +contextual -implicitDefEqProofs (maxSteps:=9^9) only [↓wkA,↓lv160,↓fz160,↓tbr160,wuH,↓reduceIte,xA,xB,xC,xD,xE,xF,reduceCtorEq,xH,xI,xJ,xK,xL,xM,xN,xO,hi,hw,hlx,htk,hms,hxi,ih,lq160_0,List.set_cons_zero,take1,keysE_app,bitsA,bitsA_get,h,hy,wbr]
theorem loop160F{x:Int}{u':LI}{u v:LI}{s:LU}{T:LI}(hb:u.length≤100000)(u4:Bit4 u)(v4:Bit4 v)(hl:u.length=v.length)(h250:∀ x y,0≤x∧x≤3→0≤y∧y≤3→evW 250 [.str s,.int .u8 x,.int .u8 y] []=oR (.tup [.int .u8 (opT T x y),okE]))(e1:u=x::u'){k:KK}:lpN ⟨62,0,kpOf 160,tb160⟩ (lp Tryz.f160 0) ⟨[(0,.str s),(1,bitsA u),(2,bitsA v),(10,.nils),(39,iA u.length),(40,iA 0)],[],0,[]⟩ k=lpN ⟨62,0,kpOf 160,tb160⟩ (lp Tryz.f160 0) ⟨[(0,.str s),(1,bitsA u),(2,bitsA v),(10,.row 0 0 1),(39,iA u.length),(40,iA 1)],[(0,.arr 162 1 [[.int .u8 (opT T x (vAt v (0)))]])],1,[]⟩ k:=by
 have hi:decide ((0:Int)<(u.length:Nat))=true:=by rw [e1];simp
 have hlt:0<u.length:=by rw [e1];simp
 have hms:decide (1≤most)=true:=by decide
 have hw1:IntKind.i64.wrap ((0:Int)+1)=1:=by decide
 obtain⟨i,hi0⟩:∃ i,i=0:=⟨0,rfl⟩
 have hxi:u[i]?=some x:=by rw [hi0,e1];rfl
 obtain⟨y,hy⟩:∃ y,v[i]?=some y:=⟨_,List.getElem?_eq_getElem (by omega)⟩
 have hy2:vAt v i=y:=by unfold vAt;rw [hy];rfl
 have h:evW 250 [.str s,.int .u8 x,.int .u8 y] []=oR (.tup [.int .u8 (opT T x (vAt v i)),okE]):=by
  rw [hy2]
  exact h250 x y (u4 x (List.mem_of_getElem? hxi)) (v4 y (List.mem_of_getElem? hy))
 subst hi0
 conv=>lhs;unfold lpN;arg 2;whnf
 conv =>
  lhs
  simp +contextual -implicitDefEqProofs (maxSteps:=9^9) only [↓wkA,↓lv160,↓fz160,↓tbr160,wuH,↓reduceIte,xA,xB,xC,xD,xE,xF,reduceCtorEq,xH,xI,xJ,xK,xL,xM,xN,xO,hi,hw1,hms,hxi,lq160_0,List.set_cons_zero,take1,bitsA,bitsA_get,h,hy,wbr]
 try rfl
end Go.Proofs.YtdhcgankmhpgeaaGreat.M
