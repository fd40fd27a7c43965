import Derived.Test.YtdhcgankmhpgeaaGreatB10
import Derived.Test.YtdhcgankmhpgeaaGreatB11
set_option linter.all false
namespace Go.Proofs.YtdhcgankmhpgeaaGreat.M
open Go
set_option maxRecDepth 100000
theorem unk0:evW 196 [.int .i64 0] []=some (.ret (bitsA (List.replicate 0 2)),[]):=ev_le 14 196 _ _ _ (by kernel_rfl)
theorem unk1:evW 196 [.int .i64 1] []=some (.ret (bitsA (List.replicate 1 2)),[]):=ev_le 14 196 _ _ _ (by kernel_rfl)
theorem unk2:evW 196 [.int .i64 2] []=some (.ret (bitsA (List.replicate 2 2)),[]):=ev_le 14 196 _ _ _ (by kernel_rfl)
theorem unk3:evW 196 [.int .i64 3] []=some (.ret (bitsA (List.replicate 3 2)),[]):=ev_le 14 196 _ _ _ (by kernel_rfl)
theorem unk4:evW 196 [.int .i64 4] []=some (.ret (bitsA (List.replicate 4 2)),[]):=ev_le 14 196 _ _ _ (by kernel_rfl)
theorem unk5:evW 196 [.int .i64 5] []=some (.ret (bitsA (List.replicate 5 2)),[]):=ev_le 14 196 _ _ _ (by kernel_rfl)
theorem unk6:evW 196 [.int .i64 6] []=some (.ret (bitsA (List.replicate 6 2)),[]):=ev_le 14 196 _ _ _ (by kernel_rfl)
theorem unk7:evW 196 [.int .i64 7] []=some (.ret (bitsA (List.replicate 7 2)),[]):=ev_le 14 196 _ _ _ (by kernel_rfl)
theorem unk8:evW 196 [.int .i64 8] []=some (.ret (bitsA (List.replicate 8 2)),[]):=ev_le 14 196 _ _ _ (by kernel_rfl)
theorem unk9:evW 196 [.int .i64 9] []=some (.ret (bitsA (List.replicate 9 2)),[]):=ev_le 14 196 _ _ _ (by kernel_rfl)
theorem unk10:evW 196 [.int .i64 10] []=some (.ret (bitsA (List.replicate 10 2)),[]):=ev_le 14 196 _ _ _ (by kernel_rfl)
theorem unk11:evW 196 [.int .i64 11] []=some (.ret (bitsA (List.replicate 11 2)),[]):=ev_le 14 196 _ _ _ (by kernel_rfl)
theorem unk12:evW 196 [.int .i64 12] []=some (.ret (bitsA (List.replicate 12 2)),[]):=ev_le 14 196 _ _ _ (by kernel_rfl)
theorem unk13:evW 196 [.int .i64 13] []=some (.ret (bitsA (List.replicate 13 2)),[]):=ev_le 14 196 _ _ _ (by kernel_rfl)
theorem unk14:evW 196 [.int .i64 14] []=some (.ret (bitsA (List.replicate 14 2)),[]):=ev_le 14 196 _ _ _ (by kernel_rfl)
theorem unk15:evW 196 [.int .i64 15] []=some (.ret (bitsA (List.replicate 15 2)),[]):=ev_le 14 196 _ _ _ (by kernel_rfl)
theorem unk16:evW 196 [.int .i64 16] []=some (.ret (bitsA (List.replicate 16 2)),[]):=ev_le 14 196 _ _ _ (by kernel_rfl)
theorem unk17:evW 196 [.int .i64 17] []=some (.ret (bitsA (List.replicate 17 2)),[]):=ev_le 14 196 _ _ _ (by kernel_rfl)
theorem unk18:evW 196 [.int .i64 18] []=some (.ret (bitsA (List.replicate 18 2)),[]):=ev_le 14 196 _ _ _ (by kernel_rfl)
theorem unk19:evW 196 [.int .i64 19] []=some (.ret (bitsA (List.replicate 19 2)),[]):=ev_le 14 196 _ _ _ (by kernel_rfl)
theorem unk20:evW 196 [.int .i64 20] []=some (.ret (bitsA (List.replicate 20 2)),[]):=ev_le 14 196 _ _ _ (by kernel_rfl)
theorem unk21:evW 196 [.int .i64 21] []=some (.ret (bitsA (List.replicate 21 2)),[]):=ev_le 14 196 _ _ _ (by kernel_rfl)
theorem unk22:evW 196 [.int .i64 22] []=some (.ret (bitsA (List.replicate 22 2)),[]):=ev_le 14 196 _ _ _ (by kernel_rfl)
theorem unk23:evW 196 [.int .i64 23] []=some (.ret (bitsA (List.replicate 23 2)),[]):=ev_le 14 196 _ _ _ (by kernel_rfl)
theorem unk24:evW 196 [.int .i64 24] []=some (.ret (bitsA (List.replicate 24 2)),[]):=ev_le 14 196 _ _ _ (by kernel_rfl)
theorem unk25:evW 196 [.int .i64 25] []=some (.ret (bitsA (List.replicate 25 2)),[]):=ev_le 14 196 _ _ _ (by kernel_rfl)
theorem unk26:evW 196 [.int .i64 26] []=some (.ret (bitsA (List.replicate 26 2)),[]):=ev_le 14 196 _ _ _ (by kernel_rfl)
theorem unk27:evW 196 [.int .i64 27] []=some (.ret (bitsA (List.replicate 27 2)),[]):=ev_le 14 196 _ _ _ (by kernel_rfl)
theorem unk28:evW 196 [.int .i64 28] []=some (.ret (bitsA (List.replicate 28 2)),[]):=ev_le 14 196 _ _ _ (by kernel_rfl)
theorem unk29:evW 196 [.int .i64 29] []=some (.ret (bitsA (List.replicate 29 2)),[]):=ev_le 14 196 _ _ _ (by kernel_rfl)
theorem unk30:evW 196 [.int .i64 30] []=some (.ret (bitsA (List.replicate 30 2)),[]):=ev_le 14 196 _ _ _ (by kernel_rfl)
theorem unk31:evW 196 [.int .i64 31] []=some (.ret (bitsA (List.replicate 31 2)),[]):=ev_le 14 196 _ _ _ (by kernel_rfl)
theorem unk32:evW 196 [.int .i64 32] []=some (.ret (bitsA (List.replicate 32 2)),[]):=ev_le 14 196 _ _ _ (by kernel_rfl)
theorem unk33:evW 196 [.int .i64 33] []=some (.ret (bitsA (List.replicate 33 2)),[]):=ev_le 14 196 _ _ _ (by kernel_rfl)
theorem unk34:evW 196 [.int .i64 34] []=some (.ret (bitsA (List.replicate 34 2)),[]):=ev_le 14 196 _ _ _ (by kernel_rfl)
theorem unk35:evW 196 [.int .i64 35] []=some (.ret (bitsA (List.replicate 35 2)),[]):=ev_le 14 196 _ _ _ (by kernel_rfl)
theorem unk36:evW 196 [.int .i64 36] []=some (.ret (bitsA (List.replicate 36 2)),[]):=ev_le 14 196 _ _ _ (by kernel_rfl)
theorem unk37:evW 196 [.int .i64 37] []=some (.ret (bitsA (List.replicate 37 2)),[]):=ev_le 14 196 _ _ _ (by kernel_rfl)
theorem unk38:evW 196 [.int .i64 38] []=some (.ret (bitsA (List.replicate 38 2)),[]):=ev_le 14 196 _ _ _ (by kernel_rfl)
theorem unk39:evW 196 [.int .i64 39] []=some (.ret (bitsA (List.replicate 39 2)),[]):=ev_le 14 196 _ _ _ (by kernel_rfl)
theorem unk40:evW 196 [.int .i64 40] []=some (.ret (bitsA (List.replicate 40 2)),[]):=ev_le 14 196 _ _ _ (by kernel_rfl)
theorem unk41:evW 196 [.int .i64 41] []=some (.ret (bitsA (List.replicate 41 2)),[]):=ev_le 14 196 _ _ _ (by kernel_rfl)
theorem unk42:evW 196 [.int .i64 42] []=some (.ret (bitsA (List.replicate 42 2)),[]):=ev_le 14 196 _ _ _ (by kernel_rfl)
theorem unk43:evW 196 [.int .i64 43] []=some (.ret (bitsA (List.replicate 43 2)),[]):=ev_le 14 196 _ _ _ (by kernel_rfl)
theorem unk44:evW 196 [.int .i64 44] []=some (.ret (bitsA (List.replicate 44 2)),[]):=ev_le 14 196 _ _ _ (by kernel_rfl)
theorem unk45:evW 196 [.int .i64 45] []=some (.ret (bitsA (List.replicate 45 2)),[]):=ev_le 14 196 _ _ _ (by kernel_rfl)
theorem unk46:evW 196 [.int .i64 46] []=some (.ret (bitsA (List.replicate 46 2)),[]):=ev_le 14 196 _ _ _ (by kernel_rfl)
theorem unk47:evW 196 [.int .i64 47] []=some (.ret (bitsA (List.replicate 47 2)),[]):=ev_le 14 196 _ _ _ (by kernel_rfl)
theorem unk48:evW 196 [.int .i64 48] []=some (.ret (bitsA (List.replicate 48 2)),[]):=ev_le 14 196 _ _ _ (by kernel_rfl)
theorem unk49:evW 196 [.int .i64 49] []=some (.ret (bitsA (List.replicate 49 2)),[]):=ev_le 14 196 _ _ _ (by kernel_rfl)
theorem unk50:evW 196 [.int .i64 50] []=some (.ret (bitsA (List.replicate 50 2)),[]):=ev_le 14 196 _ _ _ (by kernel_rfl)
theorem unk51:evW 196 [.int .i64 51] []=some (.ret (bitsA (List.replicate 51 2)),[]):=ev_le 14 196 _ _ _ (by kernel_rfl)
theorem unk52:evW 196 [.int .i64 52] []=some (.ret (bitsA (List.replicate 52 2)),[]):=ev_le 14 196 _ _ _ (by kernel_rfl)
theorem unk53:evW 196 [.int .i64 53] []=some (.ret (bitsA (List.replicate 53 2)),[]):=ev_le 14 196 _ _ _ (by kernel_rfl)
theorem unk54:evW 196 [.int .i64 54] []=some (.ret (bitsA (List.replicate 54 2)),[]):=ev_le 14 196 _ _ _ (by kernel_rfl)
theorem unk55:evW 196 [.int .i64 55] []=some (.ret (bitsA (List.replicate 55 2)),[]):=ev_le 14 196 _ _ _ (by kernel_rfl)
theorem unk56:evW 196 [.int .i64 56] []=some (.ret (bitsA (List.replicate 56 2)),[]):=ev_le 14 196 _ _ _ (by kernel_rfl)
theorem unk57:evW 196 [.int .i64 57] []=some (.ret (bitsA (List.replicate 57 2)),[]):=ev_le 14 196 _ _ _ (by kernel_rfl)
theorem unk58:evW 196 [.int .i64 58] []=some (.ret (bitsA (List.replicate 58 2)),[]):=ev_le 14 196 _ _ _ (by kernel_rfl)
theorem unk59:evW 196 [.int .i64 59] []=some (.ret (bitsA (List.replicate 59 2)),[]):=ev_le 14 196 _ _ _ (by kernel_rfl)
theorem unk60:evW 196 [.int .i64 60] []=some (.ret (bitsA (List.replicate 60 2)),[]):=ev_le 14 196 _ _ _ (by kernel_rfl)
theorem unk61:evW 196 [.int .i64 61] []=some (.ret (bitsA (List.replicate 61 2)),[]):=ev_le 14 196 _ _ _ (by kernel_rfl)
theorem unk62:evW 196 [.int .i64 62] []=some (.ret (bitsA (List.replicate 62 2)),[]):=ev_le 14 196 _ _ _ (by kernel_rfl)
theorem unk63:evW 196 [.int .i64 63] []=some (.ret (bitsA (List.replicate 63 2)),[]):=ev_le 14 196 _ _ _ (by kernel_rfl)
theorem unk64:evW 196 [.int .i64 64] []=some (.ret (bitsA (List.replicate 64 2)),[]):=ev_le 14 196 _ _ _ (by kernel_rfl)
theorem run196:∀{n:Nat},n≤64→evW 196 [.int .i64 n] []=some (.ret (bitsA (List.replicate n 2)),[])
 | 0,_=>unk0
 | 1,_=>unk1
 | 2,_=>unk2
 | 3,_=>unk3
 | 4,_=>unk4
 | 5,_=>unk5
 | 6,_=>unk6
 | 7,_=>unk7
 | 8,_=>unk8
 | 9,_=>unk9
 | 10,_=>unk10
 | 11,_=>unk11
 | 12,_=>unk12
 | 13,_=>unk13
 | 14,_=>unk14
 | 15,_=>unk15
 | 16,_=>unk16
 | 17,_=>unk17
 | 18,_=>unk18
 | 19,_=>unk19
 | 20,_=>unk20
 | 21,_=>unk21
 | 22,_=>unk22
 | 23,_=>unk23
 | 24,_=>unk24
 | 25,_=>unk25
 | 26,_=>unk26
 | 27,_=>unk27
 | 28,_=>unk28
 | 29,_=>unk29
 | 30,_=>unk30
 | 31,_=>unk31
 | 32,_=>unk32
 | 33,_=>unk33
 | 34,_=>unk34
 | 35,_=>unk35
 | 36,_=>unk36
 | 37,_=>unk37
 | 38,_=>unk38
 | 39,_=>unk39
 | 40,_=>unk40
 | 41,_=>unk41
 | 42,_=>unk42
 | 43,_=>unk43
 | 44,_=>unk44
 | 45,_=>unk45
 | 46,_=>unk46
 | 47,_=>unk47
 | 48,_=>unk48
 | 49,_=>unk49
 | 50,_=>unk50
 | 51,_=>unk51
 | 52,_=>unk52
 | 53,_=>unk53
 | 54,_=>unk54
 | 55,_=>unk55
 | 56,_=>unk56
 | 57,_=>unk57
 | 58,_=>unk58
 | 59,_=>unk59
 | 60,_=>unk60
 | 61,_=>unk61
 | 62,_=>unk62
 | 63,_=>unk63
 | 64,_=>unk64
 | n+65,h=>by omega
open Nat renaming reduceEqDiff → xA, reduceLT → xB, reduceAdd → xC, reduceMul → xD, reduceSub → xE, reduceDiv → xF, reduceLeDiff → xN
open Int renaming reduceAdd → xH, reduceLE → xI, reduceLT → xJ, reduceToNat → xK, reduceEq → xL, reduceBEq → xM
open UInt8 renaming reduceToNat → xO
set_option maxHeartbeats 4000000
attribute [local congr] br_congr ob2_congr cnd_congr gdK_congr ob_congr clK_congr finK_congr reg_congr pkK_congr kTK_congr dlT_congr gck_congr iff2_congr sel_congr dPn_congr apJ_congr nmK_congr kTo_congr fzO_congr rcK_congr lvB_congr crK_congr cdB_congr
def knownB:LI→Bool
 | []=>false
 | x::r=>decide (maxF x r≤1)
theorem isP_len{bs:LI}(h:isP bs=true):1≤bs.length∧bs.length≤64:=by
 simp only [isP,Bool.and_eq_true,decide_eq_true_eq] at h
 omega
theorem run195{bs:LI}(h:isP bs=true):evW 195 [bitsA bs] []=oR (.bool (knownB bs)):=by
 have hl:=isP_len h
 cases bs with
 | nil=>simp at hl
 | cons x r =>
   have h3:=run268 (x:=x) (bs:=r) (by omega)
   rw [w195 rfl]
   conv=>lhs;arg 2;whnf
   simp +contextual -implicitDefEqProofs (maxSteps:=9^9) only [↓wkA,↓lv195,↓fz195,wuA,↓reduceIte,xA,xB,xC,xD,xE,xF,reduceCtorEq,xH,xI,xJ,xK,xL,xM,xN,xO,h3,knownB,wbr]
theorem run232{bs:LI}(h:isP bs=true):evW 232 [bitsA bs] []=oR (.tup [.bool (knownB bs),okE]):=by
 have hl:=isP_len h
 have h2:=run188 (bs:=bs) (by omega)
 rw [h] at h2
 cases bs with
 | nil=>simp at hl
 | cons x r =>
   have h3:=run296 (x:=x) (bs:=r) (by omega)
   rw [w232 rfl]
   conv=>lhs;arg 2;whnf
   simp +contextual -implicitDefEqProofs (maxSteps:=9^9) only [↓wkA,↓lv232,↓fz232,wuA,↓reduceIte,xA,xB,xC,xD,xE,xF,reduceCtorEq,xH,xI,xJ,xK,xL,xM,xN,xO,h2,h3,knownB,okE,wbr]
theorem run194{xs bs:LI}(hx:isP xs=true)(hb:isP bs=true)(hl:xs.length=bs.length):evW 194 [.agg [bitsA xs,bitsA bs]] []=oR (.bool true):=by
 have l1:=isP_len hx
 have l2:=isP_len hb
 have h1:=run188 (bs:=xs) (by omega)
 have h2:=run188 (bs:=bs) (by omega)
 rw [hx] at h1
 rw [hb] at h2
 have he:(((xs.length:Nat):Int)==(bs.length:Nat))=true:=by simp [hl]
 rw [w194 rfl]
 conv=>lhs;arg 2;whnf
 simp +contextual -implicitDefEqProofs (maxSteps:=9^9) only [↓wkA,↓lv194,↓fz194,wuA,↓reduceIte,xA,xB,xC,xD,xE,xF,reduceCtorEq,xH,xI,xJ,xK,xL,xM,xN,xO,h1,h2,he,wbr]
theorem run100{x y:Int}:evW 100 [.int .u64 x,.int .u64 y] []=oR (.int .u64 (IntKind.u64.wrap (x+y))):=by
 rw [w100 rfl]
 conv=>lhs;arg 2;whnf
 simp +contextual -implicitDefEqProofs (maxSteps:=9^9) only [↓wkA,↓lv100,↓fz100,wuH,↓reduceIte,xA,xB,xC,xD,xE,xF,reduceCtorEq,xH,xI,xJ,xK,xL,xM,xN,xO,wbr]
theorem run101{x y:Int}:evW 101 [.int .u64 x,.int .u64 y] []=oR (.int .u64 (IntKind.u64.wrap (x-y))):=by
 rw [w101 rfl]
 conv=>lhs;arg 2;whnf
 simp +contextual -implicitDefEqProofs (maxSteps:=9^9) only [↓wkA,↓lv101,↓fz101,wuH,↓reduceIte,xA,xB,xC,xD,xE,xF,reduceCtorEq,xH,xI,xJ,xK,xL,xM,xN,xO,wbr]
theorem run102{x y:Int}:evW 102 [.int .u64 x,.int .u64 y] []=oR (.int .u64 (IntKind.u64.wrap (x*y))):=by
 rw [w102 rfl]
 conv=>lhs;arg 2;whnf
 simp +contextual -implicitDefEqProofs (maxSteps:=9^9) only [↓wkA,↓lv102,↓fz102,wuH,↓reduceIte,xA,xB,xC,xD,xE,xF,reduceCtorEq,xH,xI,xJ,xK,xL,xM,xN,xO,wbr]
theorem run104{x y:Int}:evW 104 [.int .u64 x,.int .u64 y] []=oR (.bool (decide (x<y))):=by
 rw [w104 rfl]
 conv=>lhs;arg 2;whnf
 simp +contextual -implicitDefEqProofs (maxSteps:=9^9) only [↓wkA,↓lv104,↓fz104,wuH,↓reduceIte,xA,xB,xC,xD,xE,xF,reduceCtorEq,xH,xI,xJ,xK,xL,xM,xN,xO,wbr]
def cmpF(op:Int→Int→Int)(xs bs:LI):LI:=br (knownB xs&&knownB bs) (ofL (op (numF 0 0 xs) (numF 0 0 bs)) xs.length 0 (List.replicate xs.length 0)) (List.replicate xs.length 2)
theorem run99{xs bs:LI}(hx:isP xs=true)(hb:isP bs=true)(hl:xs.length=bs.length){g:Nat}{op:Int→Int→Int}(hg:∀ x y,evW g [.int .u64 x,.int .u64 y] []=oR (.int .u64 (op x y))) :
  evW 99 [.agg [bitsA xs,bitsA bs],.fn g []] []=oR (.tup [bitsA (cmpF op xs bs),okE]):=by
 have l1:=isP_len hx
 have l2:=isP_len hb
 have h1:=run194 hx hb hl
 have h2:=run195 hx
 have h3:=run195 hb
 have h4:=run198 (bs:=xs) (by omega)
 have h5:=run198 (bs:=bs) (by omega)
 have h6:=fun k0=>run197 (k0:=k0) (n:=xs.length) (by omega)
 have h7:=run196 (n:=xs.length) (by omega)
 rw [w99 rfl]
 conv=>lhs;arg 2;whnf
 simp +contextual -implicitDefEqProofs (maxSteps:=9^9) only [↓wk0,↓wk1,↓wk2,↓wk3,↓wk4,↓wk5,↓wk6,↓wk7,↓wk8,↓wk9,↓wk10,↓wk11,↓tyr3,↓tyz3,↓tyr4,↓tyz4,↓tyr151,↓tyz151,↓tyr153,↓tyz153,↓tyr155,↓tyz155,↓ld3,↓sto3,↓mki3,↓ld4,↓sto4,↓bbe4,↓bbn4,↓ld151,↓sto151,↓len151,↓nle151,↓nln151,↓ia151,↓sc151,↓bs151,↓mk151,↓ap151,↓ld153,↓sto153,↓fa153_0,↓fl153_0,↓fa153_1,↓fl153_1,↓bl153,↓ld155,↓sto155,↓mki155,↓cv3_155,↓cv3_162,↓cv3_299,↓cv155_2,↓cv155_3,↓cv155_162,↓cv155_326,↓lv99,↓fz99,↓tbr99,↓reduceIte,wu0,wu1,Nat.reduceEqDiff,Nat.reduceLT,Nat.reduceAdd,Nat.reduceMul,Nat.reduceSub,Nat.reduceDiv,reduceCtorEq,Int.reduceAdd,Int.reduceLE,Int.reduceLT,Int.reduceToNat,Int.reduceEq,Int.reduceBEq,Nat.reduceLeDiff,Nat.reduceLeDiff,UInt8.reduceToNat,h1,h2,h3,h4,h5,h6,h7,hg,cmpF,br_true,br_false,okE,br_eq,br_same]
theorem run35{xs bs:LI}(hx:isP xs=true)(hb:isP bs=true)(hl:xs.length=bs.length):evW 35 [bitsA xs,bitsA bs] []=oR (.tup [bitsA (cmpF (fun x y=>IntKind.u64.wrap (x+y)) xs bs),okE]):=by
 have h1:=run99 hx hb hl (g:=100) (op:=fun x y=>IntKind.u64.wrap (x+y)) (fun x y=>run100)
 rw [w35 rfl]
 conv=>lhs;arg 2;whnf
 simp +contextual -implicitDefEqProofs (maxSteps:=9^9) only [↓wkA,↓lv35,↓fz35,wuA,↓reduceIte,xA,xB,xC,xD,xE,xF,reduceCtorEq,xH,xI,xJ,xK,xL,xM,xN,xO,h1,okE,wbr]
theorem run36{xs bs:LI}(hx:isP xs=true)(hb:isP bs=true)(hl:xs.length=bs.length):evW 36 [bitsA xs,bitsA bs] []=oR (.tup [bitsA (cmpF (fun x y=>IntKind.u64.wrap (x-y)) xs bs),okE]):=by
 have h1:=run99 hx hb hl (g:=101) (op:=fun x y=>IntKind.u64.wrap (x-y)) (fun x y=>run101)
 rw [w36 rfl]
 conv=>lhs;arg 2;whnf
 simp +contextual -implicitDefEqProofs (maxSteps:=9^9) only [↓wkA,↓lv36,↓fz36,wuA,↓reduceIte,xA,xB,xC,xD,xE,xF,reduceCtorEq,xH,xI,xJ,xK,xL,xM,xN,xO,h1,okE,wbr]
theorem run37{xs bs:LI}(hx:isP xs=true)(hb:isP bs=true)(hl:xs.length=bs.length):evW 37 [bitsA xs,bitsA bs] []=oR (.tup [bitsA (cmpF (fun x y=>IntKind.u64.wrap (x*y)) xs bs),okE]):=by
 have h1:=run99 hx hb hl (g:=102) (op:=fun x y=>IntKind.u64.wrap (x*y)) (fun x y=>run102)
 rw [w37 rfl]
 conv=>lhs;arg 2;whnf
 simp +contextual -implicitDefEqProofs (maxSteps:=9^9) only [↓wkA,↓lv37,↓fz37,wuA,↓reduceIte,xA,xB,xC,xD,xE,xF,reduceCtorEq,xH,xI,xJ,xK,xL,xM,xN,xO,h1,okE,wbr]
def lessF(xs bs:LI):Bool:=knownB xs&&(knownB bs&&decide (numF 0 0 xs<numF 0 0 bs))
theorem run103{xs bs:LI}(hx:isP xs=true)(hb:isP bs=true)(hl:xs.length=bs.length):evW 103 [.agg [bitsA xs,bitsA bs],.fn 104 []] []=oR (.tup [.bool (lessF xs bs),okE]):=by
 have l1:=isP_len hx
 have l2:=isP_len hb
 have h1:=run194 hx hb hl
 have h2:=run195 hx
 have h3:=run195 hb
 have h4:=run198 (bs:=xs) (by omega)
 have h5:=run198 (bs:=bs) (by omega)
 rw [w103 rfl]
 conv=>lhs;arg 2;whnf
 simp +contextual -implicitDefEqProofs (maxSteps:=9^9) only [↓wk0,↓wk1,↓wk2,↓wk3,↓wk4,↓wk5,↓wk6,↓wk7,↓wk8,↓wk9,↓wk10,↓wk11,↓tyr4,↓tyz4,↓tyr151,↓tyz151,↓tyr153,↓tyz153,↓tyr155,↓tyz155,↓ld4,↓sto4,↓bbe4,↓bbn4,↓ld151,↓sto151,↓len151,↓nle151,↓nln151,↓ia151,↓sc151,↓bs151,↓mk151,↓ap151,↓ld153,↓sto153,↓fa153_0,↓fl153_0,↓fa153_1,↓fl153_1,↓bl153,↓ld155,↓sto155,↓mki155,↓cv155_2,↓cv155_3,↓cv155_162,↓cv155_326,↓lv103,↓fz103,↓tbr103,↓reduceIte,wu0,wu1,Nat.reduceEqDiff,Nat.reduceLT,Nat.reduceAdd,Nat.reduceMul,Nat.reduceSub,Nat.reduceDiv,reduceCtorEq,Int.reduceAdd,Int.reduceLE,Int.reduceLT,Int.reduceToNat,Int.reduceEq,Int.reduceBEq,Nat.reduceLeDiff,Nat.reduceLeDiff,UInt8.reduceToNat,h1,h2,h3,h4,h5,run104,lessF,okE,br_eq,br_same]
theorem run39{xs bs:LI}(hx:isP xs=true)(hb:isP bs=true)(hl:xs.length=bs.length):evW 39 [bitsA xs,bitsA bs] []=oR (.tup [.bool (lessF xs bs),okE]):=by
 have h1:=run103 hx hb hl
 rw [w39 rfl]
 conv=>lhs;arg 2;whnf
 simp +contextual -implicitDefEqProofs (maxSteps:=9^9) only [↓wkA,↓lv39,↓fz39,wuA,↓reduceIte,xA,xB,xC,xD,xE,xF,reduceCtorEq,xH,xI,xJ,xK,xL,xM,xN,xO,h1,okE,wbr]
def floorF(a b:Int):Int:=br (!(a.tmod b==0) && !(decide (a<0)==decide (b<0))) (IntKind.i64.wrap (IntKind.i64.wrap (a.tdiv b)-1)) (IntKind.i64.wrap (a.tdiv b))
def intN(op:Int→Int→Int)(z:Bool)(a b:Int):Int:=br (isI a) (br (isI b) (br (z&&(b==0)) 0 (br (isI (op a b)) (op a b) 0)) 0) 0
def intE(op:Int→Int→Int)(z:Bool)(a b:Int):Int:=br (isI a) (br (isI b) (br (z&&(b==0)) 20 (br (isI (op a b)) 0 19)) 2) 2
def addI(a b:Int):Int:=IntKind.i64.wrap (a+b)
def subI(a b:Int):Int:=IntKind.i64.wrap (a-b)
def mulI(a b:Int):Int:=IntKind.i64.wrap (a*b)
def modI(a b:Int):Int:=IntKind.i64.wrap (a-IntKind.i64.wrap (b*floorF a b))
theorem run107{a b:Int}(h:(b==0)=false):evW 107 [iA a,iA b] []=oR (iA (floorF a b)):=by
 rw [w107 rfl]
 conv=>lhs;arg 2;whnf
 simp +contextual -implicitDefEqProofs (maxSteps:=9^9) only [↓wkA,↓lv107,↓fz107,wuH,↓bin_quo,↓bin_rem,↓reduceIte,xA,xB,xC,xD,xE,xF,reduceCtorEq,xH,xI,xJ,xK,xL,xM,xN,xO,h,floorF,br_true,br_false,wbr]
theorem run43addG:(∀{a b:Int},evW 43 [.str [43],iA a,iA b] []=oR (.tup [iA (intN addI false a b),iA (intE addI false a b)]))∧(∀{a b:Int},evW 43 [.str [45],iA a,iA b] []=oR (.tup [iA (intN subI false a b),iA (intE subI false a b)]))∧(∀{a b:Int},evW 43 [.str [42],iA a,iA b] []=oR (.tup [iA (intN mulI false a b),iA (intE mulI false a b)])):=by
 refine⟨?_,?_,?_⟩<;>intros<;>rw [w43 rfl]<;>conv=>lhs;arg 2;whnf
 all_goals simp +contextual -implicitDefEqProofs (maxSteps:=9^9) only [↓wkA,↓lv43,↓fz43,wuH,↓reduceIte,xA,xB,xC,xD,xE,xF,reduceCtorEq,xH,xI,xJ,xK,xL,xM,xN,xO,run106,intN,intE,br_true,br_false,addI,subI,mulI,wbr]
def run43add:=@run43addG.1
def run43sub:=@run43addG.2.1
def run43mul:=@run43addG.2.2
theorem run43div{a b:Int}:evW 43 [.str [47],iA a,iA b] []=oR (.tup [iA (intN floorF true a b),iA (intE floorF true a b)]):=by
 cases h:(b==0) with
 | true =>
   rw [w43 rfl]
   conv=>lhs;arg 2;whnf
   simp +contextual -implicitDefEqProofs (maxSteps:=9^9) only [↓wkA,↓lv43,↓fz43,wuA,↓reduceIte,xA,xB,xC,xD,xE,xF,reduceCtorEq,xH,xI,xJ,xK,xL,xM,xN,xO,h,run106,intN,intE,br_true,br_false,floorF,wbr]
 | false =>
   have h2:=run107 (a:=a) (b:=b) h
   rw [w43 rfl]
   conv=>lhs;arg 2;whnf
   simp +contextual -implicitDefEqProofs (maxSteps:=9^9) only [↓wkA,↓lv43,↓fz43,wuA,↓reduceIte,xA,xB,xC,xD,xE,xF,reduceCtorEq,xH,xI,xJ,xK,xL,xM,xN,xO,h,h2,run106,intN,intE,br_true,br_false,wbr]
theorem run43mod{a b:Int}:evW 43 [.str [109,111,100],iA a,iA b] []=oR (.tup [iA (intN modI true a b),iA (intE modI true a b)]):=by
 cases h:(b==0) with
 | true =>
   rw [w43 rfl]
   conv=>lhs;arg 2;whnf
   simp +contextual -implicitDefEqProofs (maxSteps:=9^9) only [↓wkA,↓lv43,↓fz43,wuA,↓reduceIte,xA,xB,xC,xD,xE,xF,reduceCtorEq,xH,xI,xJ,xK,xL,xM,xN,xO,h,run106,intN,intE,br_true,br_false,modI,wbr]
 | false =>
   have h2:=run107 (a:=a) (b:=b) h
   rw [w43 rfl]
   conv=>lhs;arg 2;whnf
   simp +contextual -implicitDefEqProofs (maxSteps:=9^9) only [↓wkA,↓lv43,↓fz43,wuA,↓reduceIte,xA,xB,xC,xD,xE,xF,reduceCtorEq,xH,xI,xJ,xK,xL,xM,xN,xO,h,h2,run106,intN,intE,br_true,br_false,modI,wbr]
theorem run229{k l:Int}{xs:LI}:evW 229 [tyA k l,bitsA xs,iA 0] []=oR (.tup [vl k 0 (bitsA xs),okE]):=by
 rw [w229 rfl]
 conv=>lhs;arg 2;whnf
 simp +contextual -implicitDefEqProofs (maxSteps:=9^9) only [↓wkA,↓lv229,↓fz229,wuH,↓reduceIte,xA,xB,xC,xD,xE,xF,reduceCtorEq,xH,xI,xJ,xK,xL,xM,xN,xO,okE,wbr]
theorem run237{c:Bool}{xs bs:LI}(hx:isP xs=true)(hb:isP bs=true):evW 237 [.bool c,bitsA xs,bitsA bs] []=oR (.tup [vl 2 (br (c&&(knownB xs&&knownB bs)) 1 0) (.sl 1 []),okE]):=by
 have h1:=run232 hx
 have h2:=run232 hb
 rw [w237 rfl]
 conv=>lhs;arg 2;whnf
 simp +contextual -implicitDefEqProofs (maxSteps:=9^9) only [↓wkA,↓lv237,↓fz237,wuH,↓reduceIte,xA,xB,xC,xD,xE,xF,reduceCtorEq,xH,xI,xJ,xK,xL,xM,xN,xO,h1,h2,run150,okE,br_true,br_false,wbr]
theorem run238{xs bs:LI}(hx:isP xs=true)(hb:isP bs=true)(hl:xs.length=bs.length):evW 238 [bitsA xs,bitsA bs] []=oR (.bool (lessF xs bs)):=by
 have h1:=run39 hx hb hl
 rw [w238 rfl]
 conv=>lhs;arg 2;whnf
 simp +contextual -implicitDefEqProofs (maxSteps:=9^9) only [↓wkA,↓lv238,↓fz238,wuH,↓reduceIte,xA,xB,xC,xD,xE,xF,reduceCtorEq,xH,xI,xJ,xK,xL,xM,xN,xO,h1,okE,wbr]
theorem run151add{xs bs:LI}(hx:isP xs=true)(hb:isP bs=true)(hl:xs.length=bs.length){l:Int}:evW 151 [.str [43],vl 4 0 (bitsA xs),vl 4 0 (bitsA bs),tyA 4 l] []=oR (.tup [vl 4 0 (bitsA (cmpF (fun x y=>IntKind.u64.wrap (x+y)) xs bs)),okE]):=by
 have h1:=run35 hx hb hl
 rw [w151 rfl]
 conv=>lhs;arg 2;whnf
 simp +contextual -implicitDefEqProofs (maxSteps:=9^9) only [↓wkA,↓lv151,↓fz151,↓tbr151,wuH,↓reduceIte,xA,xB,xC,xD,xE,xF,reduceCtorEq,xH,xI,xJ,xK,xL,xM,xN,xO,h1,run229,okE,wbr]
theorem run151sub{xs bs:LI}(hx:isP xs=true)(hb:isP bs=true)(hl:xs.length=bs.length){l:Int}:evW 151 [.str [45],vl 4 0 (bitsA xs),vl 4 0 (bitsA bs),tyA 4 l] []=oR (.tup [vl 4 0 (bitsA (cmpF (fun x y=>IntKind.u64.wrap (x-y)) xs bs)),okE]):=by
 have h1:=run36 hx hb hl
 rw [w151 rfl]
 conv=>lhs;arg 2;whnf
 simp +contextual -implicitDefEqProofs (maxSteps:=9^9) only [↓wkA,↓lv151,↓fz151,↓tbr151,wuH,↓reduceIte,xA,xB,xC,xD,xE,xF,reduceCtorEq,xH,xI,xJ,xK,xL,xM,xN,xO,h1,run229,okE,wbr]
theorem run151mul{xs bs:LI}(hx:isP xs=true)(hb:isP bs=true)(hl:xs.length=bs.length){l:Int}:evW 151 [.str [42],vl 4 0 (bitsA xs),vl 4 0 (bitsA bs),tyA 4 l] []=oR (.tup [vl 4 0 (bitsA (cmpF (fun x y=>IntKind.u64.wrap (x*y)) xs bs)),okE]):=by
 have h1:=run37 hx hb hl
 rw [w151 rfl]
 conv=>lhs;arg 2;whnf
 simp +contextual -implicitDefEqProofs (maxSteps:=9^9) only [↓wkA,↓lv151,↓fz151,↓tbr151,wuH,↓reduceIte,xA,xB,xC,xD,xE,xF,reduceCtorEq,xH,xI,xJ,xK,xL,xM,xN,xO,h1,run229,okE,wbr]
theorem run148add{a b:Int}:evW 148 [.str [43],iA a,iA b] []=br (intE addI false a b==0) (oR (.tup [vl 3 (intN addI false a b) (.sl 1 []),okE])) (oR (.tup [vl 0 0 (.sl 1 []),iA (intE addI false a b)])):=by
 have h1:=run43add (a:=a) (b:=b)
 rw [w148 rfl]
 conv=>lhs;arg 2;whnf
 simp +contextual -implicitDefEqProofs (maxSteps:=9^9) only [↓wkA,↓lv148,↓fz148,wuH,↓reduceIte,xA,xB,xC,xD,xE,xF,reduceCtorEq,xH,xI,xJ,xK,xL,xM,xN,xO,h1,run231,okE,br_true,br_false,wbr]
theorem run148sub{a b:Int}:evW 148 [.str [45],iA a,iA b] []=br (intE subI false a b==0) (oR (.tup [vl 3 (intN subI false a b) (.sl 1 []),okE])) (oR (.tup [vl 0 0 (.sl 1 []),iA (intE subI false a b)])):=by
 have h1:=run43sub (a:=a) (b:=b)
 rw [w148 rfl]
 conv=>lhs;arg 2;whnf
 simp +contextual -implicitDefEqProofs (maxSteps:=9^9) only [↓wkA,↓lv148,↓fz148,wuH,↓reduceIte,xA,xB,xC,xD,xE,xF,reduceCtorEq,xH,xI,xJ,xK,xL,xM,xN,xO,h1,run231,okE,br_true,br_false,wbr]
theorem run148mul{a b:Int}:evW 148 [.str [42],iA a,iA b] []=br (intE mulI false a b==0) (oR (.tup [vl 3 (intN mulI false a b) (.sl 1 []),okE])) (oR (.tup [vl 0 0 (.sl 1 []),iA (intE mulI false a b)])):=by
 have h1:=run43mul (a:=a) (b:=b)
 rw [w148 rfl]
 conv=>lhs;arg 2;whnf
 simp +contextual -implicitDefEqProofs (maxSteps:=9^9) only [↓wkA,↓lv148,↓fz148,wuH,↓reduceIte,xA,xB,xC,xD,xE,xF,reduceCtorEq,xH,xI,xJ,xK,xL,xM,xN,xO,h1,run231,okE,br_true,br_false,wbr]
theorem run148div{a b:Int}:evW 148 [.str [47],iA a,iA b] []=br (intE floorF true a b==0) (oR (.tup [vl 3 (intN floorF true a b) (.sl 1 []),okE])) (oR (.tup [vl 0 0 (.sl 1 []),iA (intE floorF true a b)])):=by
 have h1:=run43div (a:=a) (b:=b)
 rw [w148 rfl]
 conv=>lhs;arg 2;whnf
 simp +contextual -implicitDefEqProofs (maxSteps:=9^9) only [↓wkA,↓lv148,↓fz148,wuH,↓reduceIte,xA,xB,xC,xD,xE,xF,reduceCtorEq,xH,xI,xJ,xK,xL,xM,xN,xO,h1,run231,okE,br_true,br_false,wbr]
theorem run148mod{a b:Int}:evW 148 [.str [109,111,100],iA a,iA b] []=br (intE modI true a b==0) (oR (.tup [vl 3 (intN modI true a b) (.sl 1 []),okE])) (oR (.tup [vl 0 0 (.sl 1 []),iA (intE modI true a b)])):=by
 have h1:=run43mod (a:=a) (b:=b)
 rw [w148 rfl]
 conv=>lhs;arg 2;whnf
 simp +contextual -implicitDefEqProofs (maxSteps:=9^9) only [↓wkA,↓lv148,↓fz148,wuH,↓reduceIte,xA,xB,xC,xD,xE,xF,reduceCtorEq,xH,xI,xJ,xK,xL,xM,xN,xO,h1,run231,okE,br_true,br_false,wbr]
theorem run115n:evW 115 [.sl 1 []] []=oR (.sl 1 []):=(evW_kn (q:=(.ret (.sl 1 []),[])) (by kernel_rfl)).trans (by kernel_rfl)
theorem run116n:evW 116 [.sl 4 []] []=oR (.sl 4 []):=(evW_kn (q:=(.ret (.sl 4 []),[])) (by kernel_rfl)).trans (by kernel_rfl)
theorem run152n:evW 152 [.sl 1 []] []=oR (.sl 1 []):=(evW_kn (q:=(.ret (.sl 1 []),[])) (by kernel_rfl)).trans (by kernel_rfl)
theorem run153n:evW 153 [.sl 5 []] []=oR (.sl 5 []):=(evW_kn (q:=(.ret (.sl 5 []),[])) (by kernel_rfl)).trans (by kernel_rfl)
theorem run115c{x:Int}{xs:LI}(h:xs.length≤1000):evW 115 [bitsA (x::xs)] []=some (.ret (.row 0 0 (xs.length+1)),[.arr 162 1 ((x::xs).map fun b=>[.int .u8 b])]):=by
 have hm:decide (xs.length+1≤most)=true:=by simp [most];omega
 rw [w115 rfl rfl]
 conv=>lhs;arg 2;whnf
 simp +contextual -implicitDefEqProofs (maxSteps:=9^9) only [↓wkA,↓lv115,↓fz115,wuH,↓reduceIte,xA,xB,xC,xD,xE,xF,reduceCtorEq,xH,xI,xJ,xK,xL,xM,xN,xO,bitsA,List.map_cons,hm,wbr]
theorem run76{k l:Int}:evW 76 [tyA k l] []=oR (tyA k l):=by
 rw [w76 rfl]
 conv=>lhs;arg 2;whnf
 simp +contextual -implicitDefEqProofs (maxSteps:=9^9) only [↓wkA,↓lv76,↓fz76,↓tbr76,wuH,↓reduceIte,xA,xB,xC,xD,xE,xF,reduceCtorEq,xH,xI,xJ,xK,xL,xM,xN,xO,run152n,run153n,wbr]
 refine(lpX_code (c':=lp Tryz.f76 0) (by kernel_rfl)).trans ?_
 rw [lq76_0]
 try simp +contextual -implicitDefEqProofs (maxSteps:=9^9) only [↓wkA,↓lv76,↓fz76,↓tbr76,wuH,↓reduceIte,xA,xB,xC,xD,xE,xF,reduceCtorEq,xH,xI,xJ,xK,xL,xM,xN,xO,run152n,run153n,wbr]
 unfold lpN
 conv=>lhs;arg 2;whnf
 simp +contextual -implicitDefEqProofs (maxSteps:=9^9) only [↓wkA,↓lv76,↓fz76,↓tbr76,wuH,↓reduceIte,xA,xB,xC,xD,xE,xF,reduceCtorEq,xH,xI,xJ,xK,xL,xM,xN,xO,run152n,run153n,wbr]
theorem run53n{k n:Int}:evW 53 [vl k n (bitsA [])] []=oR (vl k n (bitsA [])):=by
 rw [w53 rfl]
 conv=>lhs;arg 2;whnf
 simp +contextual -implicitDefEqProofs (maxSteps:=9^9) only [↓wkA,↓lv53,↓fz53,↓tbr53,wuH,↓reduceIte,xA,xB,xC,xD,xE,xF,reduceCtorEq,xH,xI,xJ,xK,xL,xM,xN,xO,run115n,run116n,bitsA,List.map_nil,wbr]
 refine(lpX_code (c':=lp Tryz.f53 0) (by kernel_rfl)).trans ?_
 rw [lq53_0]
 try simp +contextual -implicitDefEqProofs (maxSteps:=9^9) only [↓wkA,↓lv53,↓fz53,↓tbr53,wuH,↓reduceIte,xA,xB,xC,xD,xE,xF,reduceCtorEq,xH,xI,xJ,xK,xL,xM,xN,xO,run115n,run116n,bitsA,List.map_nil,wbr]
 unfold lpN
 conv=>lhs;arg 2;whnf
 simp +contextual -implicitDefEqProofs (maxSteps:=9^9) only [↓wkA,↓lv53,↓fz53,↓tbr53,wuH,↓reduceIte,xA,xB,xC,xD,xE,xF,reduceCtorEq,xH,xI,xJ,xK,xL,xM,xN,xO,run115n,run116n,bitsA,List.map_nil,wbr]
theorem run53c{k n x:Int}{xs:LI}(h:xs.length≤1000):evW 53 [vl k n (bitsA (x::xs))] []=oR (vl k n (bitsA (x::xs))):=by
 have h1:=run115c (x:=x) (xs:=xs) h
 have hd:decide (xs.length+1≤((x::xs).map fun b=>[AV.int .u8 b]).length)=true:=by simp
 have htk:List.take (xs.length+1) ((x::xs).map fun b=>[AV.int .u8 b])=(x::xs).map fun b=>[AV.int .u8 b]:=List.take_of_length_le (by simp)
 have h2:AV.sl 1 ((x::xs).map fun b=>[AV.int .u8 b])=bitsA (x::xs):=rfl
 generalize hes:((x::xs).map fun b=>[AV.int .u8 b])=es at h1 hd htk h2
 have hk:keysE es=[]:=by rw [← hes];exact kE_u8
 rw [w53 rfl]
 conv=>lhs;arg 2;whnf
 simp +contextual -implicitDefEqProofs (maxSteps:=9^9) only [↓wkA,↓lv53,↓fz53,↓tbr53,wuH,↓reduceIte,xA,xB,xC,xD,xE,xF,reduceCtorEq,xH,xI,xJ,xK,xL,xM,xN,xO,h1,run116n,hk,wbr]
 refine(lpX_code (c':=lp Tryz.f53 0) (by kernel_rfl)).trans ?_
 rw [lq53_0]
 try simp +contextual -implicitDefEqProofs (maxSteps:=9^9) only [↓wkA,↓lv53,↓fz53,↓tbr53,wuH,↓reduceIte,xA,xB,xC,xD,xE,xF,reduceCtorEq,xH,xI,xJ,xK,xL,xM,xN,xO,h1,run116n,hk,wbr]
 unfold lpN
 conv=>lhs;arg 2;whnf
 simp +contextual -implicitDefEqProofs (maxSteps:=9^9) only [↓wkA,↓lv53,↓fz53,↓tbr53,wuH,↓reduceIte,xA,xB,xC,xD,xE,xF,reduceCtorEq,xH,xI,xJ,xK,xL,xM,xN,xO,h1,run116n,hd,htk,hk,h2,wbr]
end Go.Proofs.YtdhcgankmhpgeaaGreat.M
