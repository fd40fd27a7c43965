import Derived.Test.YtdhcgankmhpgeaaGreatB32
set_option linter.all false
namespace Go.Proofs.YtdhcgankmhpgeaaGreat.M
open Go
set_option maxRecDepth 100000
set_option maxHeartbeats 4000000
attribute [local congr] br_congr ob2_congr cnd_congr gdK_congr ob_congr clK_congr finK_congr reg_congr pkK_congr kTK_congr dlT_congr gck_congr iff2_congr sel_congr dPn_congr apJ_congr nmK_congr kTo_congr fzO_congr rcK_congr lvB_congr crK_congr cdB_congr
theorem agrB{k1 l1:Int}{s1:LU}{L1:LB}{es1:List TT}{p1 n1:Int}{b1:LI}{ls1:List VT}{k2 l2:Int}{s2:LU}{L2:LB}{es2:List TT}{p2 n2:Int}{b2:LI}{ls2:List VT}(x1:validT (.mk k1 l1 s1 L1 es1)=true)(y1:hasT (.mk k1 l1 s1 L1 es1) (.mk p1 n1 b1 ls1)=true)(z1:vSm (.mk p1 n1 b1 ls1))(x2:validT (.mk k2 l2 s2 L2 es2)=true)(y2:hasT (.mk k2 l2 s2 L2 es2) (.mk p2 n2 b2 ls2)=true)(z2:vSm (.mk p2 n2 b2 ls2)){sb:Bool}(h65:evW 65 [.sl 5 [[iA k1,iA l1,.str s1,.sl 1 (L1.map sC),.sl 5 (es1.map tC)],[iA k2,iA l2,.str s2,.sl 1 (L2.map sC),.sl 5 (es2.map tC)]],.sl 4 [[iA p1,iA n1,bitsA b1,.sl 4 (ls1.map vC)],[iA p2,iA n2,bitsA b2,.sl 4 (ls2.map vC)]],.fn 32 []] []=oR (.bool true))(g1:evW 34 [.agg [iA k1,iA l1,.str s1,.sl 1 (L1.map sC),.sl 5 (es1.map tC)],.agg [iA p1,iA n1,bitsA b1,.sl 4 (ls1.map vC)]] []=oR (.bool true))(g2:evW 34 [.agg [iA k2,iA l2,.str s2,.sl 1 (L2.map sC),.sl 5 (es2.map tC)],.agg [iA p2,iA n2,bitsA b2,.sl 4 (ls2.map vC)]] []=oR (.bool true))
  (hs:evW 142 [.agg [iA k1,iA l1,.str s1,.sl 1 (L1.map sC),.sl 5 (es1.map tC)],.agg [iA k2,iA l2,.str s2,.sl 1 (L2.map sC),.sl 5 (es2.map tC)]] []=oR (.bool sb)) (hs2:evW 38 [.agg [iA k1,iA l1,.str s1,.sl 1 (L1.map sC),.sl 5 (es1.map tC)],.agg [iA k2,iA l2,.str s2,.sl 1 (L2.map sC),.sl 5 (es2.map tC)]] []=oR (.bool sb)) (hsb:sb=true→TT.mk k1 l1 s1 L1 es1 = .mk k2 l2 s2 L2 es2) {s:LU} (hn:s∈names27):Agr [.str s,.sl 4 [[iA p1,iA n1,bitsA b1,.sl 4 (ls1.map vC)],[iA p2,iA n2,bitsA b2,.sl 4 (ls2.map vC)]],.sl 5 [[iA k1,iA l1,.str s1,.sl 1 (L1.map sC),.sl 5 (es1.map tC)],[iA k2,iA l2,.str s2,.sl 1 (L2.map sC),.sl 5 (es2.map tC)]]]:=by
 have N:=nm_ok hn
 simp only [names27,List.mem_cons,List.not_mem_nil,or_false] at hn
 rcases hn with rfl|rfl|rfl|rfl|rfl|rfl|rfl|rfl|rfl|rfl|rfl|rfl|rfl|rfl|rfl|rfl|rfl|rfl|rfl|rfl|rfl|rfl|rfl|rfl|rfl|rfl|rfl
 ·have h74:=run74g_and (n:=n2) hs
  have h78:=run78g_and (n:=n2) hs2
  cases c:(sb&&((k1==1||k1==4)||k1==2)) with
  | false=>rw [c] at h74 h78;exact agrb_ty N h65 g1 g2 h74 h78
  | true =>
    rw [c] at h74 h78
    try simp only [Bool.and_eq_true,Bool.or_eq_true,beq_iff_eq,decide_eq_true_eq] at c
    cases hsb c.1
    obtain⟨T,z,h⟩:∃ T z,([97,110,100],T,z)∈tabs:=⟨_,_,(.head _)⟩
    rcases c.2 with (rfl|rfl)|rfl
    ·obtain⟨_,e,ev,_⟩:=fo1 x1 y1 rfl
     cases ev
     cases e
     have q:=vv_map1 h x1 y1 y2 z1 z2 rfl
     simp only [vC_mk,tC_mk] at q
     exact agrb_val N rfl rfl h65 g1 g2 h74 h78 q
    ·obtain⟨_,e,ev,_⟩:=fo4 x1 y1 rfl
     cases ev
     cases e
     have q:=vv_map4 h x1 y1 y2 z1 z2 rfl
     simp only [vC_mk,tC_mk] at q
     exact agrb_val N rfl rfl h65 g1 g2 h74 h78 q
    ·obtain⟨_,e,ev,_⟩:=fo2 x1 y1 rfl
     cases ev
     cases e
     have q:=vv_map2 h x1 y1 y2 z1 z2 rfl
     simp only [vC_mk,tC_mk] at q
     exact agrb_val N rfl rfl h65 g1 g2 h74 h78 q
 ·have h74:=run74g_or (n:=n2) hs
  have h78:=run78g_or (n:=n2) hs2
  cases c:(sb&&((k1==1||k1==4)||k1==2)) with
  | false=>rw [c] at h74 h78;exact agrb_ty N h65 g1 g2 h74 h78
  | true =>
    rw [c] at h74 h78
    try simp only [Bool.and_eq_true,Bool.or_eq_true,beq_iff_eq,decide_eq_true_eq] at c
    cases hsb c.1
    obtain⟨T,z,h⟩:∃ T z,([111,114],T,z)∈tabs:=⟨_,_,(.tail _ (.head _))⟩
    rcases c.2 with (rfl|rfl)|rfl
    ·obtain⟨_,e,ev,_⟩:=fo1 x1 y1 rfl
     cases ev
     cases e
     have q:=vv_map1 h x1 y1 y2 z1 z2 rfl
     simp only [vC_mk,tC_mk] at q
     exact agrb_val N rfl rfl h65 g1 g2 h74 h78 q
    ·obtain⟨_,e,ev,_⟩:=fo4 x1 y1 rfl
     cases ev
     cases e
     have q:=vv_map4 h x1 y1 y2 z1 z2 rfl
     simp only [vC_mk,tC_mk] at q
     exact agrb_val N rfl rfl h65 g1 g2 h74 h78 q
    ·obtain⟨_,e,ev,_⟩:=fo2 x1 y1 rfl
     cases ev
     cases e
     have q:=vv_map2 h x1 y1 y2 z1 z2 rfl
     simp only [vC_mk,tC_mk] at q
     exact agrb_val N rfl rfl h65 g1 g2 h74 h78 q
 ·have h74:=run74g_xor (n:=n2) hs
  have h78:=run78g_xor (n:=n2) hs2
  cases c:(sb&&((k1==1||k1==4)||k1==2)) with
  | false=>rw [c] at h74 h78;exact agrb_ty N h65 g1 g2 h74 h78
  | true =>
    rw [c] at h74 h78
    try simp only [Bool.and_eq_true,Bool.or_eq_true,beq_iff_eq,decide_eq_true_eq] at c
    cases hsb c.1
    obtain⟨T,z,h⟩:∃ T z,([120,111,114],T,z)∈tabs:=⟨_,_,(.tail _ (.tail _ (.head _)))⟩
    rcases c.2 with (rfl|rfl)|rfl
    ·obtain⟨_,e,ev,_⟩:=fo1 x1 y1 rfl
     cases ev
     cases e
     have q:=vv_map1 h x1 y1 y2 z1 z2 rfl
     simp only [vC_mk,tC_mk] at q
     exact agrb_val N rfl rfl h65 g1 g2 h74 h78 q
    ·obtain⟨_,e,ev,_⟩:=fo4 x1 y1 rfl
     cases ev
     cases e
     have q:=vv_map4 h x1 y1 y2 z1 z2 rfl
     simp only [vC_mk,tC_mk] at q
     exact agrb_val N rfl rfl h65 g1 g2 h74 h78 q
    ·obtain⟨_,e,ev,_⟩:=fo2 x1 y1 rfl
     cases ev
     cases e
     have q:=vv_map2 h x1 y1 y2 z1 z2 rfl
     simp only [vC_mk,tC_mk] at q
     exact agrb_val N rfl rfl h65 g1 g2 h74 h78 q
 ·have h74:=run74g_nand (n:=n2) hs
  have h78:=run78g_nand (n:=n2) hs2
  cases c:(sb&&((k1==1||k1==4)||k1==2)) with
  | false=>rw [c] at h74 h78;exact agrb_ty N h65 g1 g2 h74 h78
  | true =>
    rw [c] at h74 h78
    try simp only [Bool.and_eq_true,Bool.or_eq_true,beq_iff_eq,decide_eq_true_eq] at c
    cases hsb c.1
    obtain⟨T,z,h⟩:∃ T z,([110,97,110,100],T,z)∈tabs:=⟨_,_,(.tail _ (.tail _ (.tail _ (.head _))))⟩
    rcases c.2 with (rfl|rfl)|rfl
    ·obtain⟨_,e,ev,_⟩:=fo1 x1 y1 rfl
     cases ev
     cases e
     have q:=vv_map1 h x1 y1 y2 z1 z2 rfl
     simp only [vC_mk,tC_mk] at q
     exact agrb_val N rfl rfl h65 g1 g2 h74 h78 q
    ·obtain⟨_,e,ev,_⟩:=fo4 x1 y1 rfl
     cases ev
     cases e
     have q:=vv_map4 h x1 y1 y2 z1 z2 rfl
     simp only [vC_mk,tC_mk] at q
     exact agrb_val N rfl rfl h65 g1 g2 h74 h78 q
    ·obtain⟨_,e,ev,_⟩:=fo2 x1 y1 rfl
     cases ev
     cases e
     have q:=vv_map2 h x1 y1 y2 z1 z2 rfl
     simp only [vC_mk,tC_mk] at q
     exact agrb_val N rfl rfl h65 g1 g2 h74 h78 q
 ·have h74:=run74g_nor (n:=n2) hs
  have h78:=run78g_nor (n:=n2) hs2
  cases c:(sb&&((k1==1||k1==4)||k1==2)) with
  | false=>rw [c] at h74 h78;exact agrb_ty N h65 g1 g2 h74 h78
  | true =>
    rw [c] at h74 h78
    try simp only [Bool.and_eq_true,Bool.or_eq_true,beq_iff_eq,decide_eq_true_eq] at c
    cases hsb c.1
    obtain⟨T,z,h⟩:∃ T z,([110,111,114],T,z)∈tabs:=⟨_,_,(.tail _ (.tail _ (.tail _ (.tail _ (.head _)))))⟩
    rcases c.2 with (rfl|rfl)|rfl
    ·obtain⟨_,e,ev,_⟩:=fo1 x1 y1 rfl
     cases ev
     cases e
     have q:=vv_map1 h x1 y1 y2 z1 z2 rfl
     simp only [vC_mk,tC_mk] at q
     exact agrb_val N rfl rfl h65 g1 g2 h74 h78 q
    ·obtain⟨_,e,ev,_⟩:=fo4 x1 y1 rfl
     cases ev
     cases e
     have q:=vv_map4 h x1 y1 y2 z1 z2 rfl
     simp only [vC_mk,tC_mk] at q
     exact agrb_val N rfl rfl h65 g1 g2 h74 h78 q
    ·obtain⟨_,e,ev,_⟩:=fo2 x1 y1 rfl
     cases ev
     cases e
     have q:=vv_map2 h x1 y1 y2 z1 z2 rfl
     simp only [vC_mk,tC_mk] at q
     exact agrb_val N rfl rfl h65 g1 g2 h74 h78 q
 ·have h74:=run74g_xnor (n:=n2) hs
  have h78:=run78g_xnor (n:=n2) hs2
  cases c:(sb&&((k1==1||k1==4)||k1==2)) with
  | false=>rw [c] at h74 h78;exact agrb_ty N h65 g1 g2 h74 h78
  | true =>
    rw [c] at h74 h78
    try simp only [Bool.and_eq_true,Bool.or_eq_true,beq_iff_eq,decide_eq_true_eq] at c
    cases hsb c.1
    obtain⟨T,z,h⟩:∃ T z,([120,110,111,114],T,z)∈tabs:=⟨_,_,(.tail _ (.tail _ (.tail _ (.tail _ (.tail _ (.head _))))))⟩
    rcases c.2 with (rfl|rfl)|rfl
    ·obtain⟨_,e,ev,_⟩:=fo1 x1 y1 rfl
     cases ev
     cases e
     have q:=vv_map1 h x1 y1 y2 z1 z2 rfl
     simp only [vC_mk,tC_mk] at q
     exact agrb_val N rfl rfl h65 g1 g2 h74 h78 q
    ·obtain⟨_,e,ev,_⟩:=fo4 x1 y1 rfl
     cases ev
     cases e
     have q:=vv_map4 h x1 y1 y2 z1 z2 rfl
     simp only [vC_mk,tC_mk] at q
     exact agrb_val N rfl rfl h65 g1 g2 h74 h78 q
    ·obtain⟨_,e,ev,_⟩:=fo2 x1 y1 rfl
     cases ev
     cases e
     have q:=vv_map2 h x1 y1 y2 z1 z2 rfl
     simp only [vC_mk,tC_mk] at q
     exact agrb_val N rfl rfl h65 g1 g2 h74 h78 q
 ·have h74:=run74g_eq (n:=n2) hs
  have h78:=run78g_eq (n:=n2) hs2
  cases c:(sb) with
  | false=>rw [c] at h74 h78;exact agrb_ty N h65 g1 g2 h74 h78
  | true =>
    rw [c] at h74 h78
    try simp only [Bool.and_eq_true,Bool.or_eq_true,beq_iff_eq,decide_eq_true_eq] at c
    cases hsb c
    have q:=vv_eq x1 y1 y2 z1 z2
    simp only [vC_mk,tC_mk] at q
    exact agrb_val N rfl rfl h65 g1 g2 h74 h78 q
 ·have h74:=run74g_ne (n:=n2) hs
  have h78:=run78g_ne (n:=n2) hs2
  cases c:(sb) with
  | false=>rw [c] at h74 h78;exact agrb_ty N h65 g1 g2 h74 h78
  | true =>
    rw [c] at h74 h78
    try simp only [Bool.and_eq_true,Bool.or_eq_true,beq_iff_eq,decide_eq_true_eq] at c
    cases hsb c
    have q:=vv_ne x1 y1 y2 z1 z2
    simp only [vC_mk,tC_mk] at q
    exact agrb_val N rfl rfl h65 g1 g2 h74 h78 q
 ·have h74:=run74g_lt (n:=n2) hs
  have h78:=run78g_lt (n:=n2) hs2
  cases c:(sb&&(k1==3||k1==4)) with
  | false=>rw [c] at h74 h78;exact agrb_ty N h65 g1 g2 h74 h78
  | true =>
    rw [c] at h74 h78
    try simp only [Bool.and_eq_true,Bool.or_eq_true,beq_iff_eq,decide_eq_true_eq] at c
    cases hsb c.1
    rcases c.2 with rfl|rfl
    ·obtain⟨_,e,ev,_⟩:=fo3 x1 y1 rfl
     cases ev
     cases e
     have q:=vv_lt3 x1 y1 y2 z1 z2 rfl
     simp only [vC_mk,tC_mk] at q
     exact agrb_val N rfl rfl h65 g1 g2 h74 h78 q
    ·obtain⟨_,e,ev,_⟩:=fo4 x1 y1 rfl
     cases ev
     cases e
     have q:=vv_lt4 x1 y1 y2 z1 z2 rfl
     simp only [vC_mk,tC_mk] at q
     exact agrb_val N rfl rfl h65 g1 g2 h74 h78 q
 ·have h74:=run74g_le (n:=n2) hs
  have h78:=run78g_le (n:=n2) hs2
  cases c:(sb&&(k1==3||k1==4)) with
  | false=>rw [c] at h74 h78;exact agrb_ty N h65 g1 g2 h74 h78
  | true =>
    rw [c] at h74 h78
    try simp only [Bool.and_eq_true,Bool.or_eq_true,beq_iff_eq,decide_eq_true_eq] at c
    cases hsb c.1
    rcases c.2 with rfl|rfl
    ·obtain⟨_,e,ev,_⟩:=fo3 x1 y1 rfl
     cases ev
     cases e
     have q:=vv_le3 x1 y1 y2 z1 z2 rfl
     simp only [vC_mk,tC_mk] at q
     exact agrb_val N rfl rfl h65 g1 g2 h74 h78 q
    ·obtain⟨_,e,ev,_⟩:=fo4 x1 y1 rfl
     cases ev
     cases e
     have q:=vv_le4 x1 y1 y2 z1 z2 rfl
     simp only [vC_mk,tC_mk] at q
     exact agrb_val N rfl rfl h65 g1 g2 h74 h78 q
 ·have h74:=run74g_gt (n:=n2) hs
  have h78:=run78g_gt (n:=n2) hs2
  cases c:(sb&&(k1==3||k1==4)) with
  | false=>rw [c] at h74 h78;exact agrb_ty N h65 g1 g2 h74 h78
  | true =>
    rw [c] at h74 h78
    try simp only [Bool.and_eq_true,Bool.or_eq_true,beq_iff_eq,decide_eq_true_eq] at c
    cases hsb c.1
    rcases c.2 with rfl|rfl
    ·obtain⟨_,e,ev,_⟩:=fo3 x1 y1 rfl
     cases ev
     cases e
     have q:=vv_gt3 x1 y1 y2 z1 z2 rfl
     simp only [vC_mk,tC_mk] at q
     exact agrb_val N rfl rfl h65 g1 g2 h74 h78 q
    ·obtain⟨_,e,ev,_⟩:=fo4 x1 y1 rfl
     cases ev
     cases e
     have q:=vv_gt4 x1 y1 y2 z1 z2 rfl
     simp only [vC_mk,tC_mk] at q
     exact agrb_val N rfl rfl h65 g1 g2 h74 h78 q
 ·have h74:=run74g_ge (n:=n2) hs
  have h78:=run78g_ge (n:=n2) hs2
  cases c:(sb&&(k1==3||k1==4)) with
  | false=>rw [c] at h74 h78;exact agrb_ty N h65 g1 g2 h74 h78
  | true =>
    rw [c] at h74 h78
    try simp only [Bool.and_eq_true,Bool.or_eq_true,beq_iff_eq,decide_eq_true_eq] at c
    cases hsb c.1
    rcases c.2 with rfl|rfl
    ·obtain⟨_,e,ev,_⟩:=fo3 x1 y1 rfl
     cases ev
     cases e
     have q:=vv_ge3 x1 y1 y2 z1 z2 rfl
     simp only [vC_mk,tC_mk] at q
     exact agrb_val N rfl rfl h65 g1 g2 h74 h78 q
    ·obtain⟨_,e,ev,_⟩:=fo4 x1 y1 rfl
     cases ev
     cases e
     have q:=vv_ge4 x1 y1 y2 z1 z2 rfl
     simp only [vC_mk,tC_mk] at q
     exact agrb_val N rfl rfl h65 g1 g2 h74 h78 q
 ·have h74:=run74g_add (n:=n2) hs
  have h78:=run78g_add (n:=n2) hs2
  cases c:(sb&&(k1==3||k1==4)) with
  | false=>rw [c] at h74 h78;exact agrb_ty N h65 g1 g2 h74 h78
  | true =>
    rw [c] at h74 h78
    try simp only [Bool.and_eq_true,Bool.or_eq_true,beq_iff_eq,decide_eq_true_eq] at c
    cases hsb c.1
    rcases c.2 with rfl|rfl
    ·obtain⟨_,e,ev,_⟩:=fo3 x1 y1 rfl
     cases ev
     cases e
     have q:=vv_add3 x1 y1 y2 z1 z2 rfl
     simp only [vC_mk,tC_mk] at q
     exact agrb_val N rfl rfl h65 g1 g2 h74 h78 q
    ·obtain⟨_,e,ev,_⟩:=fo4 x1 y1 rfl
     cases ev
     cases e
     have q:=vv_add4 x1 y1 y2 z1 z2 rfl
     simp only [vC_mk,tC_mk] at q
     exact agrb_val N rfl rfl h65 g1 g2 h74 h78 q
 ·have h74:=run74g_sub (n:=n2) hs
  have h78:=run78g_sub (n:=n2) hs2
  cases c:(sb&&(k1==3||k1==4)) with
  | false=>rw [c] at h74 h78;exact agrb_ty N h65 g1 g2 h74 h78
  | true =>
    rw [c] at h74 h78
    try simp only [Bool.and_eq_true,Bool.or_eq_true,beq_iff_eq,decide_eq_true_eq] at c
    cases hsb c.1
    rcases c.2 with rfl|rfl
    ·obtain⟨_,e,ev,_⟩:=fo3 x1 y1 rfl
     cases ev
     cases e
     have q:=vv_sub3 x1 y1 y2 z1 z2 rfl
     simp only [vC_mk,tC_mk] at q
     exact agrb_val N rfl rfl h65 g1 g2 h74 h78 q
    ·obtain⟨_,e,ev,_⟩:=fo4 x1 y1 rfl
     cases ev
     cases e
     have q:=vv_sub4 x1 y1 y2 z1 z2 rfl
     simp only [vC_mk,tC_mk] at q
     exact agrb_val N rfl rfl h65 g1 g2 h74 h78 q
 ·have h74:=run74g_mul (n:=n2) hs
  have h78:=run78g_mul (n:=n2) hs2
  cases c:(sb&&(k1==3||k1==4)) with
  | false=>rw [c] at h74 h78;exact agrb_ty N h65 g1 g2 h74 h78
  | true =>
    rw [c] at h74 h78
    try simp only [Bool.and_eq_true,Bool.or_eq_true,beq_iff_eq,decide_eq_true_eq] at c
    cases hsb c.1
    rcases c.2 with rfl|rfl
    ·obtain⟨_,e,ev,_⟩:=fo3 x1 y1 rfl
     cases ev
     cases e
     have q:=vv_mul3 x1 y1 y2 z1 z2 rfl
     simp only [vC_mk,tC_mk] at q
     exact agrb_val N rfl rfl h65 g1 g2 h74 h78 q
    ·obtain⟨_,e,ev,_⟩:=fo4 x1 y1 rfl
     cases ev
     cases e
     have q:=vv_mul4 x1 y1 y2 z1 z2 rfl
     simp only [vC_mk,tC_mk] at q
     exact agrb_val N rfl rfl h65 g1 g2 h74 h78 q
 ·have h74:=run74g_div (n:=n2) hs
  have h78:=run78g_div (n:=n2) hs2
  cases c:(sb&&k1==3) with
  | false=>rw [c] at h74 h78;exact agrb_ty N h65 g1 g2 h74 h78
  | true =>
    rw [c] at h74 h78
    try simp only [Bool.and_eq_true,Bool.or_eq_true,beq_iff_eq,decide_eq_true_eq] at c
    cases hsb c.1
    obtain rfl:=c.2
    obtain⟨_,e,ev,_⟩:=fo3 x1 y1 rfl
    cases ev
    cases e
    have q:=vv_div3 x1 y1 y2 z1 z2 rfl
    simp only [vC_mk,tC_mk] at q
    exact agrb_val N rfl rfl h65 g1 g2 h74 h78 q
 ·have h74:=run74g_mod (n:=n2) hs
  have h78:=run78g_mod (n:=n2) hs2
  cases c:(sb&&k1==3) with
  | false=>rw [c] at h74 h78;exact agrb_ty N h65 g1 g2 h74 h78
  | true =>
    rw [c] at h74 h78
    try simp only [Bool.and_eq_true,Bool.or_eq_true,beq_iff_eq,decide_eq_true_eq] at c
    cases hsb c.1
    obtain rfl:=c.2
    obtain⟨_,e,ev,_⟩:=fo3 x1 y1 rfl
    cases ev
    cases e
    have q:=vv_mod3 x1 y1 y2 z1 z2 rfl
    simp only [vC_mk,tC_mk] at q
    exact agrb_val N rfl rfl h65 g1 g2 h74 h78 q
 ·have v1:=valid_len x1
  have v2:=valid_len x2
  have h74:=run74g_cat (n:=n2) hs (run146g (s1:=s1) (k1:=k1) mm_max) (run146g (s1:=s2) (k1:=k2) mm_max) (wrap_i64 (by omega) (by omega))
  have h78:=run78g_cat (n:=n2) hs2 run156 run156 (wrap_i64 (by cases (k1==1)<;>cases (k2==1)<;>simp only [br]<;>omega) (by cases (k1==1)<;>cases (k2==1)<;>simp only [br]<;>omega))
  cases c1:(k1==1||k1==4) with
  | false=>rw [c1,Bool.false_and] at h74 h78;exact agrb_ty N h65 g1 g2 h74 h78
  | true =>
    cases c2:(k2==1||k2==4) with
    | false=>rw [c1,c2,Bool.false_and,Bool.and_false] at h74 h78;exact agrb_ty N h65 g1 g2 h74 h78
    | true =>
      simp only [Bool.or_eq_true,beq_iff_eq] at c1 c2
      have e1:br (k1==1) 1 l1=max l1 1:=by rcases c1 with rfl|rfl<;>simp [br]<;>omega
      have e2:br (k2==1) 1 l2=max l2 1:=by rcases c2 with rfl|rfl<;>simp [br]<;>omega
      rw [e1,e2] at h78
      have d1:(k1==1||k1==4)=true:=by simpa using c1
      have d2:(k2==1||k2==4)=true:=by simpa using c2
      rw [d1,d2,Bool.true_and,Bool.true_and] at h74 h78
      cases c:decide (max l1 1+max l2 1≤64) with
      | false=>rw [c] at h74 h78;exact agrb_ty N h65 g1 g2 h74 h78
      | true =>
        rw [c] at h74 h78
        have hc:=of_decide_eq_true c
        obtain⟨q1,m1,a,hk,f1,f2,ha,la⟩:=fo14 x1 y1 c1
        obtain⟨q2,m2,b,hk2,f3,f4,hb,lb⟩:=fo14 x2 y2 c2
        have q:=vv_cat x1 y1 x2 y2 z1 z2 f1 f2 f3 f4 hk ha hb (by
         cases f1
         cases f3
         rcases hk with rfl|rfl<;>rcases hk2 with rfl|rfl<;>simp at la lb<;>omega)
        simp only [vC_mk,tC_mk] at q
        exact agrb_val N rfl rfl h65 g1 g2 h74 h78 q
 ·have h74:=run74g_shl (n:=n2) hs
  have h78:=run78g_shl (n:=n2) hs2
  cases c:(k1==4&&k2==3) with
  | false=>rw [c] at h74 h78;exact agrb_ty N h65 g1 g2 h74 h78
  | true =>
    rw [c] at h74 h78
    try simp only [Bool.and_eq_true,Bool.or_eq_true,beq_iff_eq,decide_eq_true_eq] at c
    obtain⟨rfl,rfl⟩:=c
    obtain⟨_,e,ev,_⟩:=fo4 x1 y1 rfl
    cases ev
    cases e
    have q:=vv_shl x1 y1 x2 y2 z1 z2 rfl rfl
    simp only [vC_mk,tC_mk] at q
    exact agrb_val N rfl rfl h65 g1 g2 h74 h78 q
 ·have h74:=run74g_shr (n:=n2) hs
  have h78:=run78g_shr (n:=n2) hs2
  cases c:(k1==4&&k2==3) with
  | false=>rw [c] at h74 h78;exact agrb_ty N h65 g1 g2 h74 h78
  | true =>
    rw [c] at h74 h78
    try simp only [Bool.and_eq_true,Bool.or_eq_true,beq_iff_eq,decide_eq_true_eq] at c
    obtain⟨rfl,rfl⟩:=c
    obtain⟨_,e,ev,_⟩:=fo4 x1 y1 rfl
    cases ev
    cases e
    have q:=vv_shr x1 y1 x2 y2 z1 z2 rfl rfl
    simp only [vC_mk,tC_mk] at q
    exact agrb_val N rfl rfl h65 g1 g2 h74 h78 q
 ·have h74:=run74g_slt (n:=n2) hs
  have h78:=run78g_slt (n:=n2) hs2
  cases c:(sb&&k1==4) with
  | false=>rw [c] at h74 h78;exact agrb_ty N h65 g1 g2 h74 h78
  | true =>
    rw [c] at h74 h78
    try simp only [Bool.and_eq_true,Bool.or_eq_true,beq_iff_eq,decide_eq_true_eq] at c
    cases hsb c.1
    obtain rfl:=c.2
    obtain⟨_,e,ev,_⟩:=fo4 x1 y1 rfl
    cases ev
    cases e
    have q:=vv_slt x1 y1 y2 z1 z2 rfl
    simp only [vC_mk,tC_mk] at q
    exact agrb_val N rfl rfl h65 g1 g2 h74 h78 q
 ·have h74:=run74g_to_vec (n:=n2) hs
  have h78:=run78g_to_vec (n:=n2) hs2
  cases c:(k1==3&&k2==3) with
  | false=>rw [c] at h74 h78;exact agrb_ty N h65 g1 g2 h74 h78
  | true =>
    rw [c] at h74 h78
    try simp only [Bool.and_eq_true,Bool.or_eq_true,beq_iff_eq,decide_eq_true_eq] at c
    obtain⟨rfl,rfl⟩:=c
    obtain⟨a,e,ev,ha⟩:=fo3 x1 y1 rfl
    cases ev
    cases e
    obtain⟨b,e,ev,hb⟩:=fo3 x2 y2 rfl
    cases ev
    cases e
    exact agrb_tv N rfl h65 g1 g2 h74 h78 (fun hn=>do_tovece hn) (fun n e h1 h2=>by subst e;exact⟨4,0,_,by rw [bitsR_len];exact h2,do_tovec h1 h2,val_tovec ha h1 h2⟩)
 ·have h74:=run74g_resize (n:=n2) hs
  have h78:=run78g_resize (n:=n2) hs2
  cases c:(k1==4&&k2==3) with
  | false=>rw [c] at h74 h78;exact agrb_ty N h65 g1 g2 h74 h78
  | true =>
    rw [c] at h74 h78
    try simp only [Bool.and_eq_true,Bool.or_eq_true,beq_iff_eq,decide_eq_true_eq] at c
    obtain⟨rfl,rfl⟩:=c
    obtain⟨a,e,ev,ha⟩:=fo4 x1 y1 rfl
    cases ev
    cases e
    have a0:=vSm_pos z1
    obtain⟨b,e,ev,hb⟩:=fo3 x2 y2 rfl
    cases ev
    cases e
    exact agrb_rs N rfl rfl h65 g1 g2 h74 h78 (fun hn=>do_resizee ha a0 hn) (fun n e h1 h2=>by subst e;exact⟨4,0,_,by simp;omega,do_resize ha a0 h1 h2,val_resize ha a0 h1 h2⟩)
 ·exact agrb_ty N h65 g1 g2 (run74g_not (n:=n2) hs) (run78g_not (n:=n2) hs2)
 ·exact agrb_ty N h65 g1 g2 (run74g_to_int (n:=n2) hs) (run78g_to_int (n:=n2) hs2)
 ·exact agrb_ty N h65 g1 g2 (run74g_is_x (n:=n2) hs) (run78g_is_x (n:=n2) hs2)
 ·exact agrb_ty N h65 g1 g2 (run74g_length (n:=n2) hs) (run78g_length (n:=n2) hs2)
theorem agrU{k1 l1:Int}{s1:LU}{L1:LB}{es1:List TT}{p1 n1:Int}{b1:LI}{ls1:List VT}(x1:validT (.mk k1 l1 s1 L1 es1)=true)(y1:hasT (.mk k1 l1 s1 L1 es1) (.mk p1 n1 b1 ls1)=true)(z1:vSm (.mk p1 n1 b1 ls1))(h65:evW 65 [.sl 5 [[iA k1,iA l1,.str s1,.sl 1 (L1.map sC),.sl 5 (es1.map tC)]],.sl 4 [[iA p1,iA n1,bitsA b1,.sl 4 (ls1.map vC)]],.fn 32 []] []=oR (.bool true))(g1:evW 34 [.agg [iA k1,iA l1,.str s1,.sl 1 (L1.map sC),.sl 5 (es1.map tC)],.agg [iA p1,iA n1,bitsA b1,.sl 4 (ls1.map vC)]] []=oR (.bool true)){s:LU}(hn:s∈names27):Agr [.str s,.sl 4 [[iA p1,iA n1,bitsA b1,.sl 4 (ls1.map vC)]],.sl 5 [[iA k1,iA l1,.str s1,.sl 1 (L1.map sC),.sl 5 (es1.map tC)]]]:=by
 have N:=nm_ok hn
 simp only [names27,List.mem_cons,List.not_mem_nil,or_false] at hn
 rcases hn with rfl|rfl|rfl|rfl|rfl|rfl|rfl|rfl|rfl|rfl|rfl|rfl|rfl|rfl|rfl|rfl|rfl|rfl|rfl|rfl|rfl|rfl|rfl|rfl|rfl|rfl|rfl
 ·exact agru_ty N h65 g1 run74u_and run78u_and
 ·exact agru_ty N h65 g1 run74u_or run78u_or
 ·exact agru_ty N h65 g1 run74u_xor run78u_xor
 ·exact agru_ty N h65 g1 run74u_nand run78u_nand
 ·exact agru_ty N h65 g1 run74u_nor run78u_nor
 ·exact agru_ty N h65 g1 run74u_xnor run78u_xnor
 ·exact agru_ty N h65 g1 run74u_eq run78u_eq
 ·exact agru_ty N h65 g1 run74u_ne run78u_ne
 ·exact agru_ty N h65 g1 run74u_lt run78u_lt
 ·exact agru_ty N h65 g1 run74u_le run78u_le
 ·exact agru_ty N h65 g1 run74u_gt run78u_gt
 ·exact agru_ty N h65 g1 run74u_ge run78u_ge
 ·exact agru_ty N h65 g1 run74u_add run78u_add
 ·have h74:=@run74u_sub k1 l1 s1 (L1.map sC) (es1.map tC) 0
  have h78:=@run78u_sub k1 l1 s1 (L1.map sC) (es1.map tC) n1
  cases c:(k1==3) with
  | false=>rw [c] at h74 h78;exact agru_ty N h65 g1 h74 h78
  | true =>
    rw [c] at h74 h78
    simp only [Bool.and_eq_true,Bool.or_eq_true,beq_iff_eq,decide_eq_true_eq] at c
    subst c
    ·obtain⟨_,e,ev,_⟩:=fo3 x1 y1 rfl
     cases ev
     cases e
     have q:=vv_neg x1 y1 z1 rfl
     simp only [vC_mk,tC_mk] at q
     exact agru_val N rfl rfl h65 g1 h74 h78 q
 ·exact agru_ty N h65 g1 run74u_mul run78u_mul
 ·exact agru_ty N h65 g1 run74u_div run78u_div
 ·exact agru_ty N h65 g1 run74u_mod run78u_mod
 ·exact agru_ty N h65 g1 run74u_cat run78u_cat
 ·exact agru_ty N h65 g1 run74u_shl run78u_shl
 ·exact agru_ty N h65 g1 run74u_shr run78u_shr
 ·exact agru_ty N h65 g1 run74u_slt run78u_slt
 ·exact agru_ty N h65 g1 run74u_to_vec run78u_to_vec
 ·exact agru_ty N h65 g1 run74u_resize run78u_resize
 ·have h74:=@run74u_not k1 l1 s1 (L1.map sC) (es1.map tC) 0
  have h78:=@run78u_not k1 l1 s1 (L1.map sC) (es1.map tC) n1
  cases c:((k1==1||k1==4)||k1==2) with
  | false=>rw [c] at h74 h78;exact agru_ty N h65 g1 h74 h78
  | true =>
    rw [c] at h74 h78
    simp only [Bool.and_eq_true,Bool.or_eq_true,beq_iff_eq,decide_eq_true_eq] at c
    rcases c with (rfl|rfl)|rfl
    ·obtain⟨_,e,ev,_⟩:=fo1 x1 y1 rfl
     cases ev
     cases e
     have q:=vv_not1 x1 y1 z1 rfl
     simp only [vC_mk,tC_mk] at q
     exact agru_val N rfl rfl h65 g1 h74 h78 q
    ·obtain⟨_,e,ev,_⟩:=fo4 x1 y1 rfl
     cases ev
     cases e
     have q:=vv_not4 x1 y1 z1 rfl
     simp only [vC_mk,tC_mk] at q
     exact agru_val N rfl rfl h65 g1 h74 h78 q
    ·obtain⟨_,e,ev,_⟩:=fo2 x1 y1 rfl
     cases ev
     cases e
     have q:=vv_not2 x1 y1 z1 rfl
     simp only [vC_mk,tC_mk] at q
     exact agru_val N rfl rfl h65 g1 h74 h78 q
 ·have h74:=@run74u_to_int k1 l1 s1 (L1.map sC) (es1.map tC) 0
  have h78:=@run78u_to_int k1 l1 s1 (L1.map sC) (es1.map tC) n1
  cases c:(k1==4&&decide (l1≤31)) with
  | false=>rw [c] at h74 h78;exact agru_ty N h65 g1 h74 h78
  | true =>
    rw [c] at h74 h78
    simp only [Bool.and_eq_true,Bool.or_eq_true,beq_iff_eq,decide_eq_true_eq] at c
    obtain⟨rfl,c2⟩:=c
    ·have q:=vv_toi x1 y1 z1 rfl c2
     simp only [vC_mk,tC_mk] at q
     exact agru_val N rfl rfl h65 g1 h74 h78 q
 ·have h74:=@run74u_is_x k1 l1 s1 (L1.map sC) (es1.map tC) 0
  have h78:=@run78u_is_x k1 l1 s1 (L1.map sC) (es1.map tC) n1
  cases c:(k1==1||k1==4) with
  | false=>rw [c] at h74 h78;exact agru_ty N h65 g1 h74 h78
  | true =>
    rw [c] at h74 h78
    simp only [Bool.and_eq_true,Bool.or_eq_true,beq_iff_eq,decide_eq_true_eq] at c
    rcases c with rfl|rfl
    ·obtain⟨_,e,ev,_⟩:=fo1 x1 y1 rfl
     cases ev
     cases e
     have q:=vv_isx1 x1 y1 z1 rfl
     simp only [vC_mk,tC_mk] at q
     exact agru_val N rfl rfl h65 g1 h74 h78 q
    ·obtain⟨_,e,ev,_⟩:=fo4 x1 y1 rfl
     cases ev
     cases e
     have q:=vv_isx4 x1 y1 z1 rfl
     simp only [vC_mk,tC_mk] at q
     exact agru_val N rfl rfl h65 g1 h74 h78 q
 ·have h74:=@run74u_length k1 l1 s1 (L1.map sC) (es1.map tC) 0
  have h78:=@run78u_length k1 l1 s1 (L1.map sC) (es1.map tC) n1
  cases c:(k1==4||k1==6) with
  | false=>rw [c] at h74 h78;exact agru_ty N h65 g1 h74 h78
  | true =>
    rw [c] at h74 h78
    simp only [Bool.and_eq_true,Bool.or_eq_true,beq_iff_eq,decide_eq_true_eq] at c
    rcases c with rfl|rfl
    ·have q:=vv_len4 x1 y1 z1 rfl
     simp only [vC_mk,tC_mk] at q
     exact agru_val N rfl rfl h65 g1 h74 h78 q
    ·have q:=vv_len6 x1 y1 z1 rfl
     simp only [vC_mk,tC_mk] at q
     exact agru_val N rfl rfl h65 g1 h74 h78 q
open Nat renaming reduceEqDiff → xA, reduceLT → xB, reduceAdd → xC, reduceMul → xD, reduceSub → xE, reduceDiv → xF, reduceLeDiff → xN
open Int renaming reduceAdd → xH, reduceLE → xI, reduceLT → xJ, reduceToNat → xK, reduceEq → xL, reduceBEq → xM
open UInt8 renaming reduceToNat → xO
theorem op_l0G:(∀{s:LU}{A E:LA}(q1:decide ((A.length:Int)<1)=true),evW 23 [.str s,.sl 4 A,.sl 5 E] []=oR (.tup [vl 0 0 (.sl 1 []),tyA 0 0,iA 2]))∧(∀{s:LU}{A E:LA}(q1:decide ((A.length:Int)<1)=false)(q2:decide ((2:Int)<(A.length:Nat))=true),evW 23 [.str s,.sl 4 A,.sl 5 E] []=oR (.tup [vl 0 0 (.sl 1 []),tyA 0 0,iA 2]))∧(∀{s:LU}{A E:LA}(q1:decide ((A.length:Int)<1)=false)(q2:decide ((2:Int)<(A.length:Nat))=false)(h65:evW 65 [.sl 5 E,.sl 4 A,.fn 32 []] []=oR (.bool false)),evW 23 [.str s,.sl 4 A,.sl 5 E] []=oR (.tup [vl 0 0 (.sl 1 []),tyA 0 0,iA 2])):=by
 refine⟨?_,?_,?_⟩<;>intros<;>rw [w23 rfl]<;>conv=>lhs;arg 2;whnf
 all_goals simp +contextual -implicitDefEqProofs (maxSteps:=9^9) only [↓wkA,↓lv23,↓fz23,↓tbr23,wuH,↓reduceIte,xA,xB,xC,xD,xE,xF,reduceCtorEq,xH,xI,xJ,xK,xL,xM,xN,xO, *,wbr]
def op_l0:=@op_l0G.1
def op_l3:=@op_l0G.2.1
def op_lh:=@op_l0G.2.2
theorem rop_l0G:(∀{s:LU}{A E:LA}(q1:decide ((A.length:Int)<1)=true),evW 24 [.str s,.sl 4 A,.sl 5 E] []=oR (.tup [vl 0 0 (.sl 1 []),tyA 0 0,iA 2]))∧(∀{s:LU}{A E:LA}(q1:decide ((A.length:Int)<1)=false)(q2:decide ((2:Int)<(A.length:Nat))=true),evW 24 [.str s,.sl 4 A,.sl 5 E] []=oR (.tup [vl 0 0 (.sl 1 []),tyA 0 0,iA 2]))∧(∀{s:LU}{A E:LA}(q1:decide ((A.length:Int)<1)=false)(q2:decide ((2:Int)<(A.length:Nat))=false)(q3:((E.length:Int)==(A.length:Int))=false),evW 24 [.str s,.sl 4 A,.sl 5 E] []=oR (.tup [vl 0 0 (.sl 1 []),tyA 0 0,iA 2])):=by
 refine⟨?_,?_,?_⟩<;>intros<;>rw [w24 rfl]<;>conv=>lhs;arg 2;whnf
 all_goals simp +contextual -implicitDefEqProofs (maxSteps:=9^9) only [↓wkA,↓lv24,↓fz24,↓tbr24,wuH,↓reduceIte,xA,xB,xC,xD,xE,xF,reduceCtorEq,xH,xI,xJ,xK,xL,xM,xN,xO, *,wbr]
def rop_l0:=@rop_l0G.1
def rop_l3:=@rop_l0G.2.1
def rop_lh:=@rop_l0G.2.2
end Go.Proofs.YtdhcgankmhpgeaaGreat.M
namespace Go.Proofs.YtdhcgankmhpgeaaGreat.M
open Go
set_option maxRecDepth 100000
set_option maxHeartbeats 4000000
attribute [local congr] br_congr ob2_congr cnd_congr gdK_congr ob_congr clK_congr finK_congr reg_congr pkK_congr kTK_congr dlT_congr gck_congr iff2_congr sel_congr dPn_congr apJ_congr nmK_congr kTo_congr fzO_congr rcK_congr lvB_congr crK_congr cdB_congr
theorem name_cases(s:LU):((fun8.any fun x=>s==x)=false∧(ops21.any fun x=>s==x)=false)∨s=[114,105,115,105,110,103]∨s=[102,97,108,108,105,110,103]∨s∈names27:=by
 cases h1:(fun8.any fun x=>s==x) with
 | true =>
   refine .inr ?_
   simp only [fun8,List.any_cons,List.any_nil,Bool.or_eq_true,beq_iff_eq,Bool.false_eq_true,or_false] at h1
   rcases h1 with h|h|h|h|h|h|h|h
   ·exact .inl h
   ·exact .inr (.inl h)
   all_goals exact .inr (.inr (by subst h;simp [names27]))
 | false =>
   cases h2:(ops21.any fun x=>s==x) with
   | false=>exact .inl ⟨rfl,rfl⟩
   | true =>
     refine .inr (.inr (.inr ?_))
     simp only [ops21,List.any_cons,List.any_nil,Bool.or_eq_true,beq_iff_eq,Bool.false_eq_true,or_false] at h2
     rcases h2 with h|h|h|h|h|h|h|h|h|h|h|h|h|h|h|h|h|h|h|h|h
     all_goals (subst h;simp [names27])
theorem ris_ok:evW 72 [.str [114,105,115,105,110,103]] []=oR (.bool true)∧evW 73 [.str [114,105,115,105,110,103]] []=oR (.bool true)∧evW 77 [.str [114,105,115,105,110,103]] []=oR (.bool true):=⟨ev_le 60 72 _ _ _ (by kernel_rfl),ev_le 20 73 _ _ _ (by kernel_rfl),ev_le 60 77 _ _ _ (by kernel_rfl)⟩
theorem fal_ok:evW 72 [.str [102,97,108,108,105,110,103]] []=oR (.bool true)∧evW 73 [.str [102,97,108,108,105,110,103]] []=oR (.bool true)∧evW 77 [.str [102,97,108,108,105,110,103]] []=oR (.bool true):=⟨ev_le 60 72 _ _ _ (by kernel_rfl),ev_le 20 73 _ _ _ (by kernel_rfl),ev_le 60 77 _ _ _ (by kernel_rfl)⟩
theorem agrUA{k1 l1:Int}{s1:LU}{L1:LB}{es1:List TT}{p1 n1:Int}{b1:LI}{ls1:List VT}(t1:tSm (TT.mk k1 l1 s1 L1 es1))(z1:vSm (VT.mk p1 n1 b1 ls1)){s:LU}:Agr [.str s,.sl 4 [[iA p1,iA n1,bitsA b1,.sl 4 (ls1.map vC)]],.sl 5 [[iA k1,iA l1,.str s1,.sl 1 (L1.map sC),.sl 5 (es1.map tC)]]]:=by
 have h65:=run65T (ts:=[(TT.mk k1 l1 s1 L1 es1)]) (vs:=[(VT.mk p1 n1 b1 ls1)]) (p:=fun t v=>validT t&&hasT t v) (fun t v hv=>run32T t v (by
  simp only [List.mem_cons,List.not_mem_nil,or_false] at hv
  subst hv;exact z1)) (by simp)
 rw [show (((([(TT.mk k1 l1 s1 L1 es1)]:List TT).length:Nat):Int)==(([(VT.mk p1 n1 b1 ls1)]:List VT).length:Nat))=true from rfl,Bool.true_and] at h65
 simp only [all2,Bool.and_true,List.map_cons,List.map_nil,vC_mk,tC_mk] at h65
 have g1:=run34T (TT.mk k1 l1 s1 L1 es1) (VT.mk p1 n1 b1 ls1) t1 z1
 simp only [tA,vA,vC_mk,tC_mk] at g1
 cases c:((validT (TT.mk k1 l1 s1 L1 es1)&&hasT (TT.mk k1 l1 s1 L1 es1) (VT.mk p1 n1 b1 ls1))) with
 | false =>
   rw [c] at h65
   refine agr_err 2 (op_u_has h65) ?_
   rcases name_cases s with ⟨f1,f2⟩|rfl|rfl|hn
   ·exact rop_u_name (run77n f1 f2)
   ·exact rop_u_ris ris_ok.2.2 rfl
   ·exact rop_u_fal fal_ok.2.2 rfl rfl
   ·have N:=nm_ok hn
    rw [c] at g1
    exact rop_u_has1 N.2.2.1 N.2.2.2.1 N.2.2.2.2 g1
 | true =>
   rw [c] at h65
   rcases name_cases s with ⟨f1,f2⟩|rfl|rfl|hn
   ·have h72:=run72 (s:=s)
    rw [f1,f2] at h72
    exact agr_err 2 (op_u_name h65 h72) (rop_u_name (run77n f1 f2))
   ·exact agr_err 2 (op_u_edge h65 ris_ok.1 ris_ok.2.1) (rop_u_ris ris_ok.2.2 rfl)
   ·exact agr_err 2 (op_u_edge h65 fal_ok.1 fal_ok.2.1) (rop_u_fal fal_ok.2.2 rfl rfl)
   ·rw [c] at g1
    rw [Bool.and_eq_true] at c
    exact agrU c.1 c.2 z1 h65 g1 hn
theorem agrBA{k1 l1:Int}{s1:LU}{L1:LB}{es1:List TT}{p1 n1:Int}{b1:LI}{ls1:List VT}{k2 l2:Int}{s2:LU}{L2:LB}{es2:List TT}{p2 n2:Int}{b2:LI}{ls2:List VT}(t1:tSm (TT.mk k1 l1 s1 L1 es1))(z1:vSm (VT.mk p1 n1 b1 ls1))(t2:tSm (TT.mk k2 l2 s2 L2 es2))(z2:vSm (VT.mk p2 n2 b2 ls2)){s:LU}:Agr [.str s,.sl 4 [[iA p1,iA n1,bitsA b1,.sl 4 (ls1.map vC)],[iA p2,iA n2,bitsA b2,.sl 4 (ls2.map vC)]],.sl 5 [[iA k1,iA l1,.str s1,.sl 1 (L1.map sC),.sl 5 (es1.map tC)],[iA k2,iA l2,.str s2,.sl 1 (L2.map sC),.sl 5 (es2.map tC)]]]:=by
 have h65:=run65T (ts:=[(TT.mk k1 l1 s1 L1 es1),(TT.mk k2 l2 s2 L2 es2)]) (vs:=[(VT.mk p1 n1 b1 ls1),(VT.mk p2 n2 b2 ls2)]) (p:=fun t v=>validT t&&hasT t v) (fun t v hv=>run32T t v (by
  simp only [List.mem_cons,List.not_mem_nil,or_false] at hv
  rcases hv with rfl|rfl
  ·exact z1
  ·exact z2)) (by simp)
 rw [show (((([(TT.mk k1 l1 s1 L1 es1),(TT.mk k2 l2 s2 L2 es2)]:List TT).length:Nat):Int)==(([(VT.mk p1 n1 b1 ls1),(VT.mk p2 n2 b2 ls2)]:List VT).length:Nat))=true from rfl,Bool.true_and] at h65
 simp only [all2,Bool.and_true,List.map_cons,List.map_nil,vC_mk,tC_mk] at h65
 have g1:=run34T (TT.mk k1 l1 s1 L1 es1) (VT.mk p1 n1 b1 ls1) t1 z1
 simp only [tA,vA,vC_mk,tC_mk] at g1
 have g2:=run34T (TT.mk k2 l2 s2 L2 es2) (VT.mk p2 n2 b2 ls2) t2 z2
 simp only [tA,vA,vC_mk,tC_mk] at g2
 cases c:((validT (TT.mk k1 l1 s1 L1 es1)&&hasT (TT.mk k1 l1 s1 L1 es1) (VT.mk p1 n1 b1 ls1))&&(validT (TT.mk k2 l2 s2 L2 es2)&&hasT (TT.mk k2 l2 s2 L2 es2) (VT.mk p2 n2 b2 ls2))) with
 | false =>
   rw [c] at h65
   refine agr_err 2 (op_b_has h65) ?_
   rcases name_cases s with ⟨f1,f2⟩|rfl|rfl|hn
   ·exact rop_b_name (run77n f1 f2)
   ·exact rop_b_ris ris_ok.2.2 rfl
   ·exact rop_b_fal fal_ok.2.2 rfl rfl
   ·have N:=nm_ok hn
    cases c1:(validT (TT.mk k1 l1 s1 L1 es1)&&hasT (TT.mk k1 l1 s1 L1 es1) (VT.mk p1 n1 b1 ls1)) with
    | false=>rw [c1] at g1;exact rop_b_has1 N.2.2.1 N.2.2.2.1 N.2.2.2.2 g1
    | true =>
      rw [c1] at g1
      rw [c1,Bool.true_and] at c
      rw [c] at g2
      exact rop_b_has2 N.2.2.1 N.2.2.2.1 N.2.2.2.2 g1 g2
 | true =>
   rw [c] at h65
   rcases name_cases s with ⟨f1,f2⟩|rfl|rfl|hn
   ·have h72:=run72 (s:=s)
    rw [f1,f2] at h72
    exact agr_err 2 (op_b_name h65 h72) (rop_b_name (run77n f1 f2))
   ·exact agr_err 2 (op_b_edge h65 ris_ok.1 ris_ok.2.1) (rop_b_ris ris_ok.2.2 rfl)
   ·exact agr_err 2 (op_b_edge h65 fal_ok.1 fal_ok.2.1) (rop_b_fal fal_ok.2.2 rfl rfl)
   ·rw [Bool.and_eq_true] at c
    rw [c.1] at g1
    rw [c.2] at g2
    have hs:=run142T (TT.mk k1 l1 s1 L1 es1) (TT.mk k2 l2 s2 L2 es2) t1
    have hs2:=run38T (TT.mk k1 l1 s1 L1 es1) (TT.mk k2 l2 s2 L2 es2) t1 t2
    simp only [Bool.and_eq_true] at c
    rw [c.1.1,c.2.1,Bool.true_and,Bool.true_and] at hs hs2
    simp only [tA,tC_mk] at hs hs2
    exact agrB c.1.1 c.1.2 z1 c.2.1 c.2.2 z2 h65 g1 g2 hs hs2 (fun h=>sameT_eq h) hn
theorem agr_all{s:LU}{vs:List VT}{ts:List TT}(hv:∀ v∈vs,vSm v)(ht:∀ t∈ts,tSm t)(hl:ts.length≤5):Agr [.str s,.sl 4 (vs.map vC),.sl 5 (ts.map tC)]:=by
 have h65:=run65T (ts:=ts) (vs:=vs) (p:=fun t v=>validT t&&hasT t v) (fun t v h=>run32T t v (hv v h)) (by omega)
 by_cases l0:vs.length<1
 ·have q1:decide (((vs.map vC).length:Int)<1)=true:=by simp;omega
  exact agr_err 2 (op_l0 q1) (rop_l0 q1)
 have q1:decide (((vs.map vC).length:Int)<1)=false:=by simp;omega
 by_cases l3:2<vs.length
 ·have q2:decide ((2:Int)<((vs.map vC).length:Nat))=true:=by simp;omega
  exact agr_err 2 (op_l3 q1 q2) (rop_l3 q1 q2)
 have q2:decide ((2:Int)<((vs.map vC).length:Nat))=false:=by simp;omega
 by_cases le:ts.length=vs.length
 ·clear h65 q1 q2
  match vs,ts,le with
  | [.mk _ _ _ _],[.mk _ _ _ _ _],_ =>
    simp only [List.map_cons,List.map_nil,vC_mk,tC_mk]
    exact agrUA (ht _ (by simp)) (hv _ (by simp))
  | [.mk _ _ _ _,.mk _ _ _ _],[.mk _ _ _ _ _,.mk _ _ _ _ _],_ =>
    simp only [List.map_cons,List.map_nil,vC_mk,tC_mk]
    exact agrBA (ht _ (by simp)) (hv _ (by simp)) (ht _ (by simp)) (hv _ (by simp))
  | [],_,_=>simp at l0
  | _::_::_::r,_,_=>simp at l3
 ·have q3:((ts.length:Int)==(vs.length:Nat))=false:=by simp;omega
  have q4:(((ts.map tC).length:Int)==((vs.map vC).length:Nat))=false:=by simp;omega
  rw [q3,Bool.false_and] at h65
  exact agr_err 2 (op_lh q1 q2 h65) (rop_lh q1 q2 q4)
end Go.Proofs.YtdhcgankmhpgeaaGreat.M
