import Derived.Test.YtdhcgankmhpgeaaGreatB31
set_option linter.all false
namespace Go.Proofs.YtdhcgankmhpgeaaGreat.M
open Go
set_option maxRecDepth 100000
set_option maxHeartbeats 4000000
attribute [local congr] br_congr ob2_congr cnd_congr gdK_congr ob_congr clK_congr finK_congr reg_congr pkK_congr kTK_congr dlT_congr gck_congr iff2_congr sel_congr dPn_congr apJ_congr nmK_congr kTo_congr fzO_congr rcK_congr lvB_congr crK_congr cdB_congr
def V2(nm:LU)(vs ts:LA):Prop :=
 (∃ kv nv bs,bs.length≤64∧evW 75 [.str nm,.sl 4 vs,.sl 5 ts] []=oR (.tup [vl kv nv (bitsA bs),okE])∧evW 79 [.str nm,.sl 4 vs] []=oR (.tup [vl kv nv (bitsA bs),okE])) ∨
 ∃ e,(e==0)=false∧evW 75 [.str nm,.sl 4 vs,.sl 5 ts] []=oR (.tup [vl 0 0 (.sl 1 []),iA e])∧evW 79 [.str nm,.sl 4 vs] []=oR (.tup [vl 0 0 (.sl 1 []),iA e])
theorem tab_len{n:Nat}{g:Nat→Option Int}(h:n≤64):(tabL n g).length≤64:=by
 unfold tabL
 simp
 omega
variable {t : TT} {v w : VT}
theorem vv_map1{nm:LU}{T:LI}{z:LU}(h:(nm,T,z)∈tabs)(ht:validT t=true)(hv:hasT t v=true)(hw:hasT t w=true)(sv:vSm v)(sw:vSm w)(hk:kindT t=1):V2 nm [vC v,vC w] [tC t,tC t]:=by
 obtain⟨a,rfl,rfl,ha,la⟩:=fo1 ht hv hk
 obtain⟨b,_,rfl,hb,lb⟩:=fo1 ht hw rfl
 have a0:=vSm_pos sv
 have b0:=vSm_pos sw
 simp only [vC_mk,tC_mk,List.map_nil]
 exact .inl ⟨1,0,_,tab_len (isP_len ha).2,do_map h ha hb a0 b0 (by omega) (.inl rfl),val_map h ha hb a0 b0 (by omega) (.inl rfl)⟩
theorem vv_map4{nm:LU}{T:LI}{z:LU}(h:(nm,T,z)∈tabs)(ht:validT t=true)(hv:hasT t v=true)(hw:hasT t w=true)(sv:vSm v)(sw:vSm w)(hk:kindT t=4):V2 nm [vC v,vC w] [tC t,tC t]:=by
 obtain⟨a,rfl,rfl,ha⟩:=fo4 ht hv hk
 obtain⟨b,e,rfl,hb⟩:=fo4 ht hw rfl
 have hl:a.length=b.length:=by injection e with _ e;exact_mod_cast e
 have a0:=vSm_pos sv
 have b0:=vSm_pos sw
 simp only [vC_mk,tC_mk,List.map_nil]
 exact .inl ⟨4,0,_,tab_len (isP_len ha).2,do_map h ha hb a0 b0 hl (.inr rfl),val_map h ha hb a0 b0 hl (.inr rfl)⟩
theorem vv_map2{nm:LU}{T:LI}{z:LU}(h:(nm,T,z)∈tabs)(ht:validT t=true)(hv:hasT t v=true)(hw:hasT t w=true)(sv:vSm v)(sw:vSm w)(hk:kindT t=2):V2 nm [vC v,vC w] [tC t,tC t]:=by
 obtain⟨a,rfl,rfl,ha⟩:=fo2 ht hv hk
 obtain⟨b,_,rfl,hb⟩:=fo2 ht hw rfl
 simp only [vC_mk,tC_mk,List.map_nil]
 refine .inl ⟨2,opT T a b,[],Nat.zero_le _,?_⟩
 simp only [tabs,List.mem_cons,Prod.mk.injEq,List.not_mem_nil,or_false] at h
 rcases h with ⟨rfl,rfl,rfl⟩|⟨rfl,rfl,rfl⟩|⟨rfl,rfl,rfl⟩|⟨rfl,rfl,rfl⟩|⟨rfl,rfl,rfl⟩|⟨rfl,rfl,rfl⟩
 all_goals rcases ha with rfl|rfl<;>rcases hb with rfl|rfl<;>exact⟨ev_le 20 75 _ _ _ (by kernel_rfl),ev_le 20 79 _ _ _ (by kernel_rfl)⟩
theorem vv_lt3  (ht:validT t=true) (hv:hasT t v=true) (hw:hasT t w=true) (sv:vSm v) (sw:vSm w) (hk:kindT t=3):V2 [60] [vC v,vC w] [tC t,tC t]:=by
 obtain⟨a,rfl,rfl,ha⟩:=fo3 ht hv hk
 obtain⟨b,_,rfl,hb⟩:=fo3 ht hw rfl
 simp only [vC_mk,tC_mk,List.map_nil]
 exact .inl ⟨2,_,[],Nat.zero_le _,do_ilt,val_ilt ha hb⟩
theorem vv_lt4  (ht:validT t=true) (hv:hasT t v=true) (hw:hasT t w=true) (sv:vSm v) (sw:vSm w) (hk:kindT t=4):V2 [60] [vC v,vC w] [tC t,tC t]:=by
 obtain⟨a,rfl,rfl,ha⟩:=fo4 ht hv hk
 obtain⟨b,e,rfl,hb⟩:=fo4 ht hw rfl
 have hl:a.length=b.length:=by injection e with _ e;exact_mod_cast e
 have a0:=vSm_pos sv
 have b0:=vSm_pos sw
 simp only [vC_mk,tC_mk,List.map_nil]
 exact .inl ⟨2,_,[],Nat.zero_le _,do_vlt ha hb hl,both_vlt ha hb a0 b0 hl⟩
theorem vv_le3  (ht:validT t=true) (hv:hasT t v=true) (hw:hasT t w=true) (sv:vSm v) (sw:vSm w) (hk:kindT t=3):V2 [60,61] [vC v,vC w] [tC t,tC t]:=by
 obtain⟨a,rfl,rfl,ha⟩:=fo3 ht hv hk
 obtain⟨b,_,rfl,hb⟩:=fo3 ht hw rfl
 simp only [vC_mk,tC_mk,List.map_nil]
 exact .inl ⟨2,_,[],Nat.zero_le _,do_ile,val_ile ha hb⟩
theorem vv_le4  (ht:validT t=true) (hv:hasT t v=true) (hw:hasT t w=true) (sv:vSm v) (sw:vSm w) (hk:kindT t=4):V2 [60,61] [vC v,vC w] [tC t,tC t]:=by
 obtain⟨a,rfl,rfl,ha⟩:=fo4 ht hv hk
 obtain⟨b,e,rfl,hb⟩:=fo4 ht hw rfl
 have hl:a.length=b.length:=by injection e with _ e;exact_mod_cast e
 have a0:=vSm_pos sv
 have b0:=vSm_pos sw
 simp only [vC_mk,tC_mk,List.map_nil]
 exact .inl ⟨2,_,[],Nat.zero_le _,do_vle ha hb hl,both_vle ha hb a0 b0 hl⟩
theorem vv_gt3  (ht:validT t=true) (hv:hasT t v=true) (hw:hasT t w=true) (sv:vSm v) (sw:vSm w) (hk:kindT t=3):V2 [62] [vC v,vC w] [tC t,tC t]:=by
 obtain⟨a,rfl,rfl,ha⟩:=fo3 ht hv hk
 obtain⟨b,_,rfl,hb⟩:=fo3 ht hw rfl
 simp only [vC_mk,tC_mk,List.map_nil]
 exact .inl ⟨2,_,[],Nat.zero_le _,do_igt,val_igt ha hb⟩
theorem vv_gt4  (ht:validT t=true) (hv:hasT t v=true) (hw:hasT t w=true) (sv:vSm v) (sw:vSm w) (hk:kindT t=4):V2 [62] [vC v,vC w] [tC t,tC t]:=by
 obtain⟨a,rfl,rfl,ha⟩:=fo4 ht hv hk
 obtain⟨b,e,rfl,hb⟩:=fo4 ht hw rfl
 have hl:a.length=b.length:=by injection e with _ e;exact_mod_cast e
 have a0:=vSm_pos sv
 have b0:=vSm_pos sw
 simp only [vC_mk,tC_mk,List.map_nil]
 exact .inl ⟨2,_,[],Nat.zero_le _,do_vgt ha hb hl,both_vgt ha hb a0 b0 hl⟩
theorem vv_ge3  (ht:validT t=true) (hv:hasT t v=true) (hw:hasT t w=true) (sv:vSm v) (sw:vSm w) (hk:kindT t=3):V2 [62,61] [vC v,vC w] [tC t,tC t]:=by
 obtain⟨a,rfl,rfl,ha⟩:=fo3 ht hv hk
 obtain⟨b,_,rfl,hb⟩:=fo3 ht hw rfl
 simp only [vC_mk,tC_mk,List.map_nil]
 exact .inl ⟨2,_,[],Nat.zero_le _,do_ige,val_ige ha hb⟩
theorem vv_ge4  (ht:validT t=true) (hv:hasT t v=true) (hw:hasT t w=true) (sv:vSm v) (sw:vSm w) (hk:kindT t=4):V2 [62,61] [vC v,vC w] [tC t,tC t]:=by
 obtain⟨a,rfl,rfl,ha⟩:=fo4 ht hv hk
 obtain⟨b,e,rfl,hb⟩:=fo4 ht hw rfl
 have hl:a.length=b.length:=by injection e with _ e;exact_mod_cast e
 have a0:=vSm_pos sv
 have b0:=vSm_pos sw
 simp only [vC_mk,tC_mk,List.map_nil]
 exact .inl ⟨2,_,[],Nat.zero_le _,do_vge ha hb hl,both_vge ha hb a0 b0 hl⟩
theorem vv_add3  (ht:validT t=true) (hv:hasT t v=true) (hw:hasT t w=true) (sv:vSm v) (sw:vSm w) (hk:kindT t=3):V2 [43] [vC v,vC w] [tC t,tC t]:=by
 obtain⟨a,rfl,rfl,ha⟩:=fo3 ht hv hk
 obtain⟨b,_,rfl,hb⟩:=fo3 ht hw rfl
 simp only [vC_mk,tC_mk,List.map_nil]
 cases h:(intE addI false a b==0) with
 | true=>exact .inl ⟨3,_,[],Nat.zero_le _,do_iaddt h,val_iaddt ha hb h⟩
 | false=>exact .inr ⟨_,h,do_iaddf h,val_iaddf ha hb h⟩
theorem vv_add4  (ht:validT t=true) (hv:hasT t v=true) (hw:hasT t w=true) (sv:vSm v) (sw:vSm w) (hk:kindT t=4):V2 [43] [vC v,vC w] [tC t,tC t]:=by
 obtain⟨a,rfl,rfl,ha⟩:=fo4 ht hv hk
 obtain⟨b,e,rfl,hb⟩:=fo4 ht hw rfl
 have hl:a.length=b.length:=by injection e with _ e;exact_mod_cast e
 have a0:=vSm_pos sv
 have b0:=vSm_pos sw
 simp only [vC_mk,tC_mk,List.map_nil]
 exact .inl ⟨4,0,_,by rw [cmp_len];exact(isP_len ha).2,do_vadd ha hb hl,val_vadd ha hb a0 b0 hl⟩
theorem vv_sub3  (ht:validT t=true) (hv:hasT t v=true) (hw:hasT t w=true) (sv:vSm v) (sw:vSm w) (hk:kindT t=3):V2 [45] [vC v,vC w] [tC t,tC t]:=by
 obtain⟨a,rfl,rfl,ha⟩:=fo3 ht hv hk
 obtain⟨b,_,rfl,hb⟩:=fo3 ht hw rfl
 simp only [vC_mk,tC_mk,List.map_nil]
 cases h:(intE subI false a b==0) with
 | true=>exact .inl ⟨3,_,[],Nat.zero_le _,do_isubt h,val_isubt ha hb h⟩
 | false=>exact .inr ⟨_,h,do_isubf h,val_isubf ha hb h⟩
theorem vv_sub4  (ht:validT t=true) (hv:hasT t v=true) (hw:hasT t w=true) (sv:vSm v) (sw:vSm w) (hk:kindT t=4):V2 [45] [vC v,vC w] [tC t,tC t]:=by
 obtain⟨a,rfl,rfl,ha⟩:=fo4 ht hv hk
 obtain⟨b,e,rfl,hb⟩:=fo4 ht hw rfl
 have hl:a.length=b.length:=by injection e with _ e;exact_mod_cast e
 have a0:=vSm_pos sv
 have b0:=vSm_pos sw
 simp only [vC_mk,tC_mk,List.map_nil]
 exact .inl ⟨4,0,_,by rw [cmp_len];exact(isP_len ha).2,do_vsub ha hb hl,val_vsub ha hb a0 b0 hl⟩
theorem vv_mul3  (ht:validT t=true) (hv:hasT t v=true) (hw:hasT t w=true) (sv:vSm v) (sw:vSm w) (hk:kindT t=3):V2 [42] [vC v,vC w] [tC t,tC t]:=by
 obtain⟨a,rfl,rfl,ha⟩:=fo3 ht hv hk
 obtain⟨b,_,rfl,hb⟩:=fo3 ht hw rfl
 simp only [vC_mk,tC_mk,List.map_nil]
 cases h:(intE mulI false a b==0) with
 | true=>exact .inl ⟨3,_,[],Nat.zero_le _,do_imult h,val_imult ha hb h⟩
 | false=>exact .inr ⟨_,h,do_imulf h,val_imulf ha hb h⟩
theorem vv_mul4  (ht:validT t=true) (hv:hasT t v=true) (hw:hasT t w=true) (sv:vSm v) (sw:vSm w) (hk:kindT t=4):V2 [42] [vC v,vC w] [tC t,tC t]:=by
 obtain⟨a,rfl,rfl,ha⟩:=fo4 ht hv hk
 obtain⟨b,e,rfl,hb⟩:=fo4 ht hw rfl
 have hl:a.length=b.length:=by injection e with _ e;exact_mod_cast e
 have a0:=vSm_pos sv
 have b0:=vSm_pos sw
 simp only [vC_mk,tC_mk,List.map_nil]
 exact .inl ⟨4,0,_,by rw [cmp_len];exact(isP_len ha).2,do_vmul ha hb hl,val_vmul ha hb a0 b0 hl⟩
theorem vv_div3  (ht:validT t=true) (hv:hasT t v=true) (hw:hasT t w=true) (sv:vSm v) (sw:vSm w) (hk:kindT t=3):V2 [47] [vC v,vC w] [tC t,tC t]:=by
 obtain⟨a,rfl,rfl,ha⟩:=fo3 ht hv hk
 obtain⟨b,_,rfl,hb⟩:=fo3 ht hw rfl
 simp only [vC_mk,tC_mk,List.map_nil]
 cases h:(intE floorF true a b==0) with
 | true=>exact .inl ⟨3,_,[],Nat.zero_le _,do_idivt h,val_idivt ha hb h⟩
 | false=>exact .inr ⟨_,h,do_idivf h,val_idivf ha hb h⟩
theorem vv_mod3  (ht:validT t=true) (hv:hasT t v=true) (hw:hasT t w=true) (sv:vSm v) (sw:vSm w) (hk:kindT t=3):V2 [109,111,100] [vC v,vC w] [tC t,tC t]:=by
 obtain⟨a,rfl,rfl,ha⟩:=fo3 ht hv hk
 obtain⟨b,_,rfl,hb⟩:=fo3 ht hw rfl
 simp only [vC_mk,tC_mk,List.map_nil]
 cases h:(intE modI true a b==0) with
 | true=>exact .inl ⟨3,_,[],Nat.zero_le _,do_imodt h,val_imodt ha hb h⟩
 | false=>exact .inr ⟨_,h,do_imodf h,val_imodf ha hb h⟩
theorem vv_slt  (ht:validT t=true) (hv:hasT t v=true) (hw:hasT t w=true) (sv:vSm v) (sw:vSm w) (hk:kindT t=4):V2 [115,108,116] [vC v,vC w] [tC t,tC t]:=by
 obtain⟨a,rfl,rfl,ha⟩:=fo4 ht hv hk
 obtain⟨b,e,rfl,hb⟩:=fo4 ht hw rfl
 have hl:a.length=b.length:=by injection e with _ e;exact_mod_cast e
 have a0:=vSm_pos sv
 have b0:=vSm_pos sw
 simp only [vC_mk,tC_mk,List.map_nil]
 exact .inl ⟨2,_,[],Nat.zero_le _,do_slt ha hb hl,val_slt ha hb a0 b0 hl⟩
theorem vv_eq(ht:validT t=true)(hv:hasT t v=true)(hw:hasT t w=true)(sv:vSm v)(sw:vSm w):V2 [61] [vC v,vC w] [tC t,tC t]:=by
 have h1:=run40T t v w sv sw ht hv hw
 have h2:=run17T v w sv
 obtain⟨k,l,s,L,es⟩:=t
 obtain⟨k1,n1,b1,l1⟩:=v
 obtain⟨k2,n2,b2,l2⟩:=w
 simp only [tA,vA,vC_mk,tC_mk] at h1 h2 ⊢
 cases c:eqV (.mk k1 n1 b1 l1) (.mk k2 n2 b2 l2) with
 | true=>rw [c] at h1 h2;exact .inl ⟨2,_,[],Nat.zero_le _,do_eqt h1,val_eqt h2⟩
 | false=>rw [c] at h1 h2;exact .inl ⟨2,_,[],Nat.zero_le _,do_eqf h1,val_eqf h2⟩
theorem vv_ne(ht:validT t=true)(hv:hasT t v=true)(hw:hasT t w=true)(sv:vSm v)(sw:vSm w):V2 [47,61] [vC v,vC w] [tC t,tC t]:=by
 have h1:=run40T t v w sv sw ht hv hw
 have h2:=run17T v w sv
 obtain⟨k,l,s,L,es⟩:=t
 obtain⟨k1,n1,b1,l1⟩:=v
 obtain⟨k2,n2,b2,l2⟩:=w
 simp only [tA,vA,vC_mk,tC_mk] at h1 h2 ⊢
 cases c:eqV (.mk k1 n1 b1 l1) (.mk k2 n2 b2 l2) with
 | true=>rw [c] at h1 h2;exact .inl ⟨2,_,[],Nat.zero_le _,do_net h1,val_net h2⟩
 | false=>rw [c] at h1 h2;exact .inl ⟨2,_,[],Nat.zero_le _,do_nef h1,val_nef h2⟩
theorem vv_shl{t2:TT}(ht:validT t=true)(hv:hasT t v=true)(ht2:validT t2=true)(hw:hasT t2 w=true)(sv:vSm v)(sw:vSm w)(hk:kindT t=4)(hk2:kindT t2=3):V2 [115,104,108] [vC v,vC w] [tC t,tC t2]:=by
 obtain⟨a,rfl,rfl,ha⟩:=fo4 ht hv hk
 obtain⟨b,rfl,rfl,hb⟩:=fo3 ht2 hw hk2
 have a0:=vSm_pos sv
 have b1:=isI_b hb
 simp only [vC_mk,tC_mk,List.map_nil]
 cases h:decide (b<0) with
 | true=>exact .inr ⟨19,rfl,do_shle ha a0 h,val_shle ha a0 h⟩
 | false=>exact .inl ⟨4,0,_,tab_len (isP_len ha).2,do_shl ha a0 h,val_shl ha a0 h (by omega)⟩
theorem vv_shr{t2:TT}(ht:validT t=true)(hv:hasT t v=true)(ht2:validT t2=true)(hw:hasT t2 w=true)(sv:vSm v)(sw:vSm w)(hk:kindT t=4)(hk2:kindT t2=3):V2 [115,104,114] [vC v,vC w] [tC t,tC t2]:=by
 obtain⟨a,rfl,rfl,ha⟩:=fo4 ht hv hk
 obtain⟨b,rfl,rfl,hb⟩:=fo3 ht2 hw hk2
 have a0:=vSm_pos sv
 have b1:=isI_b hb
 simp only [vC_mk,tC_mk,List.map_nil]
 cases h:decide (b<0) with
 | true=>exact .inr ⟨19,rfl,do_shre ha a0 h,val_shre ha a0 h⟩
 | false=>exact .inl ⟨4,0,_,tab_len (isP_len ha).2,do_shr ha a0 h,val_shr ha a0 h (by omega)⟩
theorem fo14{t:TT}{v:VT}(ht:validT t=true)(h:hasT t v=true)(hk:kindT t=1∨kindT t=4):∃ k l b,(k=1∨k=4)∧t = .mk k l [] [] []∧v = .mk k 0 b []∧isP b=true∧(b.length:Int)=(if k=1 then 1 else l):=by
 rcases hk with hk|hk
 ·obtain⟨b,rfl,rfl,h1,h2⟩:=fo1 ht h hk
  exact⟨1,0,b,.inl rfl,rfl,rfl,h1,by simp;omega⟩
 ·obtain⟨b,rfl,rfl,h1⟩:=fo4 ht h hk
  exact⟨4,_,b,.inr rfl,rfl,rfl,h1,by simp⟩
theorem vv_cat{t2:TT}(ht:validT t=true)(hv:hasT t v=true)(ht2:validT t2=true)(hw:hasT t2 w=true)(sv:vSm v)(sw:vSm w){a b:LI}{k l k2 l2:Int}(h1:t = .mk k l [] [] [])(h2:v = .mk k 0 a [])(h3:t2 = .mk k2 l2 [] [] [])(h4:w = .mk k2 0 b [])(hk:k=1∨k=4)(ha:isP a=true)(hb:isP b=true)(hl:a.length+b.length≤64):V2 [38] [vC v,vC w] [tC t,tC t2]:=by
 subst h1 h2 h3 h4
 have a0:=vSm_pos sv
 have b0:=vSm_pos sw
 simp only [vC_mk,tC_mk,List.map_nil]
 exact .inl ⟨4,0,_,by simp;omega,do_cat ha hb a0 b0 hl hk,val_cat ha hb a0 b0 hl⟩
theorem vv_not1(ht:validT t=true)(hv:hasT t v=true)(sv:vSm v)(hk:kindT t=1)  : V2 [110,111,116] [vC v] [tC t]:=by
 obtain⟨a,rfl,rfl,ha,la⟩:=fo1 ht hv hk
 have a0:=vSm_pos sv
 simp only [vC_mk,tC_mk,List.map_nil]
 exact .inl ⟨1,0,_,tab_len (isP_len ha).2,do_not1 ha a0,val_not1 ha a0⟩
theorem vv_not4(ht:validT t=true)(hv:hasT t v=true)(sv:vSm v)(hk:kindT t=4)  : V2 [110,111,116] [vC v] [tC t]:=by
 obtain⟨a,rfl,rfl,ha⟩:=fo4 ht hv hk
 have a0:=vSm_pos sv
 simp only [vC_mk,tC_mk,List.map_nil]
 exact .inl ⟨4,0,_,tab_len (isP_len ha).2,do_not4 ha a0,val_not4 ha a0⟩
theorem vv_not2(ht:validT t=true)(hv:hasT t v=true)(sv:vSm v)(hk:kindT t=2)  : V2 [110,111,116] [vC v] [tC t]:=by
 obtain⟨a,rfl,rfl,ha⟩:=fo2 ht hv hk
 simp only [vC_mk,tC_mk,List.map_nil]
 rcases ha with rfl|rfl
 ·exact .inl ⟨2,1,[],Nat.zero_le _,do_notb0,val_notb0⟩
 ·exact .inl ⟨2,0,[],Nat.zero_le _,do_notb1,val_notb1⟩
theorem vv_neg(ht:validT t=true)(hv:hasT t v=true)(sv:vSm v)(hk:kindT t=3)  : V2 [45] [vC v] [tC t]:=by
 obtain⟨a,rfl,rfl,ha⟩:=fo3 ht hv hk
 simp only [vC_mk,tC_mk,List.map_nil]
 cases h:(intE subI false 0 a==0) with
 | true=>exact .inl ⟨3,_,[],Nat.zero_le _,do_negt h,val_negt h ha⟩
 | false=>exact .inr ⟨_,h,do_negf h,val_negf h ha⟩
theorem vv_isx1(ht:validT t=true)(hv:hasT t v=true)(sv:vSm v)(hk:kindT t=1)  : V2 [105,115,95,120] [vC v] [tC t]:=by
 obtain⟨a,rfl,rfl,ha,la⟩:=fo1 ht hv hk
 have a0:=vSm_pos sv
 simp only [vC_mk,tC_mk,List.map_nil]
 cases h:knownR a with
 | true=>exact .inl ⟨2,0,[],Nat.zero_le _,do_isx1t ha a0 h,val_isx1t ha a0 h⟩
 | false=>exact .inl ⟨2,1,[],Nat.zero_le _,do_isx1f ha a0 h,val_isx1f ha a0 h⟩
theorem vv_isx4(ht:validT t=true)(hv:hasT t v=true)(sv:vSm v)(hk:kindT t=4)  : V2 [105,115,95,120] [vC v] [tC t]:=by
 obtain⟨a,rfl,rfl,ha⟩:=fo4 ht hv hk
 have a0:=vSm_pos sv
 simp only [vC_mk,tC_mk,List.map_nil]
 cases h:knownR a with
 | true=>exact .inl ⟨2,0,[],Nat.zero_le _,do_isx4t ha a0 h,val_isx4t ha a0 h⟩
 | false=>exact .inl ⟨2,1,[],Nat.zero_le _,do_isx4f ha a0 h,val_isx4f ha a0 h⟩
theorem vv_toi(ht:validT t=true)(hv:hasT t v=true)(sv:vSm v){l:Int}{s:LU}{L:LB}{es:List TT}(e:t = .mk 4 l s L es)(hl:l≤31):V2 [116,111,95,105,110,116] [vC v] [tC t]:=by
 obtain⟨a,h1,rfl,ha⟩:=fo4 ht hv (by rw [e];rfl)
 have hl2:a.length≤31:=by
  rw [e] at h1
  injection h1 with _ h1
  omega
 subst h1
 have a0:=vSm_pos sv
 simp only [vC_mk,tC_mk,List.map_nil]
 exact .inl ⟨3,_,[],Nat.zero_le _,do_toi ha a0 hl2,val_toi ha a0 hl2⟩
theorem vv_len4(ht:validT t=true)(hv:hasT t v=true)(sv:vSm v)(hk:kindT t=4):V2 [108,101,110,103,116,104] [vC v] [tC t]:=by
 obtain⟨a,rfl,rfl,ha⟩:=fo4 ht hv hk
 have hn:=isP_len ha
 simp only [vC_mk,tC_mk,List.map_nil,bitsA]
 refine .inl ⟨3,_,[],Nat.zero_le _,do_len4,val_len4 ?_⟩
 rw [wrap_i64 (by simp<;>omega) (by simp<;>omega)]
 simp
theorem vv_len6(ht:validT t=true)(hv:hasT t v=true)(sv:vSm v)(hk:kindT t=6):V2 [108,101,110,103,116,104] [vC v] [tC t]:=by
 obtain⟨l,s,L,e,ls,rfl,rfl,hl,h64⟩:=fo6 ht hv hk
 simp only [vC_mk,tC_mk,bitsA]
 refine .inl ⟨3,_,[],Nat.zero_le _,do_len6,val_len6 ?_⟩
 rw [wrap_i64 (by simp<;>omega) (by simp<;>omega)]
 simp
 exact hl
def Agr(args:List AV):Prop:=∃ k n bs kt lt e,bs.length≤64∧evW 23 args []=oR (.tup [vl k n (bitsA bs),tyA kt lt,iA e])∧evW 24 args []=oR (.tup [vl k n (bitsA bs),tyA kt lt,iA e])
def NmOK(s:LU):Prop:=evW 72 [.str s] []=oR (.bool true)∧evW 73 [.str s] []=oR (.bool false)∧evW 77 [.str s] []=oR (.bool true)∧(s==[114,105,115,105,110,103])=false∧(s==[102,97,108,108,105,110,103])=false
theorem agr_err{args:List AV}(e:Int)(h1:evW 23 args []=oR (.tup [vl 0 0 (.sl 1 []),tyA 0 0,iA e]))(h2:evW 24 args []=oR (.tup [vl 0 0 (.sl 1 []),tyA 0 0,iA e])):Agr args:=⟨0,0,[],0,0,e,Nat.zero_le _,h1,h2⟩
theorem agru_ty{s:LU}{k1 n1:Int}{b1:LI}{w1:LA}{q1 l1:Int}{s1:LU}{m1 e1:LA}(N:NmOK s)(h65:evW 65 [.sl 5 [[iA q1,iA l1,.str s1,.sl 1 m1,.sl 5 e1]],.sl 4 [[iA k1,iA n1,bitsA b1,.sl 4 w1]],.fn 32 []] []=oR (.bool true))(g1:evW 34 [.agg [iA q1,iA l1,.str s1,.sl 1 m1,.sl 5 e1],.agg [iA k1,iA n1,bitsA b1,.sl 4 w1]] []=oR (.bool true)){kt lt:Int}{st:LU}{mt et:LA}(h74:evW 74 [.str s,.sl 5 [[iA q1,iA l1,.str s1,.sl 1 m1,.sl 5 e1]],iA 0] []=oR (.tup [.agg [iA kt,iA lt,.str st,.sl 1 mt,.sl 5 et],.bool false])){kt' lt':Int}{st':LU}{mt' et':LA}(h78:evW 78 [.str s,.sl 5 [[iA q1,iA l1,.str s1,.sl 1 m1,.sl 5 e1]],iA n1] []=oR (.tup [.agg [iA kt',iA lt',.str st',.sl 1 mt',.sl 5 et'],.bool false])):Agr [.str s,.sl 4 [[iA k1,iA n1,bitsA b1,.sl 4 w1]],.sl 5 [[iA q1,iA l1,.str s1,.sl 1 m1,.sl 5 e1]]] :=
 agr_err 16 (op_u_type h65 N.1 N.2.1 h74) (rop_u_type N.2.2.1 N.2.2.2.1 N.2.2.2.2 g1 h78)
theorem agru_val{s:LU}{k1 n1:Int}{b1:LI}{w1:LA}{q1 l1:Int}{s1:LU}{m1 e1:LA}(N:NmOK s)(m1':(s==[116,111,95,118,101,99])=false)(m2':(s==[114,101,115,105,122,101])=false)(h65:evW 65 [.sl 5 [[iA q1,iA l1,.str s1,.sl 1 m1,.sl 5 e1]],.sl 4 [[iA k1,iA n1,bitsA b1,.sl 4 w1]],.fn 32 []] []=oR (.bool true))(g1:evW 34 [.agg [iA q1,iA l1,.str s1,.sl 1 m1,.sl 5 e1],.agg [iA k1,iA n1,bitsA b1,.sl 4 w1]] []=oR (.bool true)){kt lt:Int}(h74:evW 74 [.str s,.sl 5 [[iA q1,iA l1,.str s1,.sl 1 m1,.sl 5 e1]],iA 0] []=oR (.tup [tyA kt lt,.bool true]))(h78:evW 78 [.str s,.sl 5 [[iA q1,iA l1,.str s1,.sl 1 m1,.sl 5 e1]],iA n1] []=oR (.tup [tyA kt lt,.bool true]))(hv:V2 s [[iA k1,iA n1,bitsA b1,.sl 4 w1]] [[iA q1,iA l1,.str s1,.sl 1 m1,.sl 5 e1]]):Agr [.str s,.sl 4 [[iA k1,iA n1,bitsA b1,.sl 4 w1]],.sl 5 [[iA q1,iA l1,.str s1,.sl 1 m1,.sl 5 e1]]]:=by
 rcases hv with ⟨kv,nv,bs,hl,h75,h79⟩|⟨e,he,h75,h79⟩
 ·exact⟨kv,nv,bs,kt,lt,0,hl,op_u_ok h65 N.1 N.2.1 h74 h75 (by omega),rop_u_ok N.2.2.1 N.2.2.2.1 N.2.2.2.2 g1 h78 m1' m2' h79⟩
 ·exact agr_err e (op_u_err (bs:=[]) h65 N.1 N.2.1 h74 h75 he) (rop_u_err (bs:=[]) N.2.2.1 N.2.2.2.1 N.2.2.2.2 g1 h78 m1' m2' h79 he)
theorem agrb_ty{s:LU}{k1 n1:Int}{b1:LI}{w1:LA}{q1 l1:Int}{s1:LU}{m1 e1:LA}{k2 n2:Int}{b2:LI}{w2:LA}{q2 l2:Int}{s2:LU}{m2 e2:LA}(N:NmOK s)(h65:evW 65 [.sl 5 [[iA q1,iA l1,.str s1,.sl 1 m1,.sl 5 e1],[iA q2,iA l2,.str s2,.sl 1 m2,.sl 5 e2]],.sl 4 [[iA k1,iA n1,bitsA b1,.sl 4 w1],[iA k2,iA n2,bitsA b2,.sl 4 w2]],.fn 32 []] []=oR (.bool true))(g1:evW 34 [.agg [iA q1,iA l1,.str s1,.sl 1 m1,.sl 5 e1],.agg [iA k1,iA n1,bitsA b1,.sl 4 w1]] []=oR (.bool true))(g2:evW 34 [.agg [iA q2,iA l2,.str s2,.sl 1 m2,.sl 5 e2],.agg [iA k2,iA n2,bitsA b2,.sl 4 w2]] []=oR (.bool true)){kt lt:Int}{st:LU}{mt et:LA}(h74:evW 74 [.str s,.sl 5 [[iA q1,iA l1,.str s1,.sl 1 m1,.sl 5 e1],[iA q2,iA l2,.str s2,.sl 1 m2,.sl 5 e2]],iA n2] []=oR (.tup [.agg [iA kt,iA lt,.str st,.sl 1 mt,.sl 5 et],.bool false])){kt' lt':Int}{st':LU}{mt' et':LA}(h78:evW 78 [.str s,.sl 5 [[iA q1,iA l1,.str s1,.sl 1 m1,.sl 5 e1],[iA q2,iA l2,.str s2,.sl 1 m2,.sl 5 e2]],iA n2] []=oR (.tup [.agg [iA kt',iA lt',.str st',.sl 1 mt',.sl 5 et'],.bool false])):Agr [.str s,.sl 4 [[iA k1,iA n1,bitsA b1,.sl 4 w1],[iA k2,iA n2,bitsA b2,.sl 4 w2]],.sl 5 [[iA q1,iA l1,.str s1,.sl 1 m1,.sl 5 e1],[iA q2,iA l2,.str s2,.sl 1 m2,.sl 5 e2]]] :=
 agr_err 16 (op_b_type h65 N.1 N.2.1 h74) (rop_b_type N.2.2.1 N.2.2.2.1 N.2.2.2.2 g1 g2 h78)
theorem agrb_val{s:LU}{k1 n1:Int}{b1:LI}{w1:LA}{q1 l1:Int}{s1:LU}{m1 e1:LA}{k2 n2:Int}{b2:LI}{w2:LA}{q2 l2:Int}{s2:LU}{m2 e2:LA}(N:NmOK s)(m1':(s==[116,111,95,118,101,99])=false)(m2':(s==[114,101,115,105,122,101])=false)(h65:evW 65 [.sl 5 [[iA q1,iA l1,.str s1,.sl 1 m1,.sl 5 e1],[iA q2,iA l2,.str s2,.sl 1 m2,.sl 5 e2]],.sl 4 [[iA k1,iA n1,bitsA b1,.sl 4 w1],[iA k2,iA n2,bitsA b2,.sl 4 w2]],.fn 32 []] []=oR (.bool true))(g1:evW 34 [.agg [iA q1,iA l1,.str s1,.sl 1 m1,.sl 5 e1],.agg [iA k1,iA n1,bitsA b1,.sl 4 w1]] []=oR (.bool true))(g2:evW 34 [.agg [iA q2,iA l2,.str s2,.sl 1 m2,.sl 5 e2],.agg [iA k2,iA n2,bitsA b2,.sl 4 w2]] []=oR (.bool true)){kt lt:Int}(h74:evW 74 [.str s,.sl 5 [[iA q1,iA l1,.str s1,.sl 1 m1,.sl 5 e1],[iA q2,iA l2,.str s2,.sl 1 m2,.sl 5 e2]],iA n2] []=oR (.tup [tyA kt lt,.bool true]))(h78:evW 78 [.str s,.sl 5 [[iA q1,iA l1,.str s1,.sl 1 m1,.sl 5 e1],[iA q2,iA l2,.str s2,.sl 1 m2,.sl 5 e2]],iA n2] []=oR (.tup [tyA kt lt,.bool true]))(hv:V2 s [[iA k1,iA n1,bitsA b1,.sl 4 w1],[iA k2,iA n2,bitsA b2,.sl 4 w2]] [[iA q1,iA l1,.str s1,.sl 1 m1,.sl 5 e1],[iA q2,iA l2,.str s2,.sl 1 m2,.sl 5 e2]]):Agr [.str s,.sl 4 [[iA k1,iA n1,bitsA b1,.sl 4 w1],[iA k2,iA n2,bitsA b2,.sl 4 w2]],.sl 5 [[iA q1,iA l1,.str s1,.sl 1 m1,.sl 5 e1],[iA q2,iA l2,.str s2,.sl 1 m2,.sl 5 e2]]]:=by
 rcases hv with ⟨kv,nv,bs,hl,h75,h79⟩|⟨e,he,h75,h79⟩
 ·exact⟨kv,nv,bs,kt,lt,0,hl,op_b_ok h65 N.1 N.2.1 h74 h75 (by omega),rop_b_ok N.2.2.1 N.2.2.2.1 N.2.2.2.2 g1 g2 h78 m1' m2' h79⟩
 ·exact agr_err e (op_b_err (bs:=[]) h65 N.1 N.2.1 h74 h75 he) (rop_b_err (bs:=[]) N.2.2.1 N.2.2.2.1 N.2.2.2.2 g1 g2 h78 m1' m2' h79 he)
theorem agrb_tv{s:LU}{k1 n1:Int}{b1:LI}{w1:LA}{q1 l1:Int}{s1:LU}{m1 e1:LA}{k2 n2:Int}{b2:LI}{w2:LA}{q2 l2:Int}{s2:LU}{m2 e2:LA}(N:NmOK s)(m1':(s==[116,111,95,118,101,99])=true)(h65:evW 65 [.sl 5 [[iA q1,iA l1,.str s1,.sl 1 m1,.sl 5 e1],[iA q2,iA l2,.str s2,.sl 1 m2,.sl 5 e2]],.sl 4 [[iA k1,iA n1,bitsA b1,.sl 4 w1],[iA k2,iA n2,bitsA b2,.sl 4 w2]],.fn 32 []] []=oR (.bool true))(g1:evW 34 [.agg [iA q1,iA l1,.str s1,.sl 1 m1,.sl 5 e1],.agg [iA k1,iA n1,bitsA b1,.sl 4 w1]] []=oR (.bool true))(g2:evW 34 [.agg [iA q2,iA l2,.str s2,.sl 1 m2,.sl 5 e2],.agg [iA k2,iA n2,bitsA b2,.sl 4 w2]] []=oR (.bool true)){kt lt:Int}(h74:evW 74 [.str s,.sl 5 [[iA q1,iA l1,.str s1,.sl 1 m1,.sl 5 e1],[iA q2,iA l2,.str s2,.sl 1 m2,.sl 5 e2]],iA n2] []=oR (.tup [tyA kt lt,.bool true]))(h78:evW 78 [.str s,.sl 5 [[iA q1,iA l1,.str s1,.sl 1 m1,.sl 5 e1],[iA q2,iA l2,.str s2,.sl 1 m2,.sl 5 e2]],iA n2] []=oR (.tup [tyA kt lt,.bool true]))
  (lo:(decide (1≤n2)&&decide (n2≤64))=false→evW 75 [.str s,.sl 4 [[iA k1,iA n1,bitsA b1,.sl 4 w1],[iA k2,iA n2,bitsA b2,.sl 4 w2]],.sl 5 [[iA q1,iA l1,.str s1,.sl 1 m1,.sl 5 e1],[iA q2,iA l2,.str s2,.sl 1 m2,.sl 5 e2]]] []=oR (.tup [vl 0 0 (.sl 1 []),iA 19]))
  (hi:∀ n:Nat,n2=n→1≤n→n≤64→∃ kv nv bs,bs.length≤64∧evW 75 [.str s,.sl 4 [[iA k1,iA n1,bitsA b1,.sl 4 w1],[iA k2,iA n2,bitsA b2,.sl 4 w2]],.sl 5 [[iA q1,iA l1,.str s1,.sl 1 m1,.sl 5 e1],[iA q2,iA l2,.str s2,.sl 1 m2,.sl 5 e2]]] []=oR (.tup [vl kv nv (bitsA bs),okE])∧evW 79 [.str s,.sl 4 [[iA k1,iA n1,bitsA b1,.sl 4 w1],[iA k2,iA n2,bitsA b2,.sl 4 w2]]] []=oR (.tup [vl kv nv (bitsA bs),okE])):Agr [.str s,.sl 4 [[iA k1,iA n1,bitsA b1,.sl 4 w1],[iA k2,iA n2,bitsA b2,.sl 4 w2]],.sl 5 [[iA q1,iA l1,.str s1,.sl 1 m1,.sl 5 e1],[iA q2,iA l2,.str s2,.sl 1 m2,.sl 5 e2]]]:=by
 cases c1:decide (n2<1) with
 | true =>
   have h75:=lo (by rw [decide_eq_false (by have:=of_decide_eq_true c1;omega)];rfl)
   exact agr_err 19 (op_b_err (bs:=[]) h65 N.1 N.2.1 h74 h75 rfl) (rop_tvlo N.2.2.1 N.2.2.2.1 N.2.2.2.2 g1 g2 h78 m1' c1)
 | false =>
   cases c2:decide (64<n2) with
   | true =>
     have h75:=lo (by rw [show decide (n2≤64)=false from decide_eq_false (by have:=of_decide_eq_true c2;omega),Bool.and_false])
     exact agr_err 19 (op_b_err (bs:=[]) h65 N.1 N.2.1 h74 h75 rfl) (rop_tvhi N.2.2.1 N.2.2.2.1 N.2.2.2.2 g1 g2 h78 m1' c1 c2)
   | false =>
     have d1:=of_decide_eq_false c1
     have d2:=of_decide_eq_false c2
     obtain⟨kv,nv,bs,hl,h75,h79⟩:=hi n2.toNat (by omega) (by omega) (by omega)
     exact⟨kv,nv,bs,kt,lt,0,hl,op_b_ok h65 N.1 N.2.1 h74 h75 (by omega),rop_tvok N.2.2.1 N.2.2.2.1 N.2.2.2.2 g1 g2 h78 m1' c1 c2 h79⟩
theorem agrb_rs{s:LU}{k1 n1:Int}{b1:LI}{w1:LA}{q1 l1:Int}{s1:LU}{m1 e1:LA}{k2 n2:Int}{b2:LI}{w2:LA}{q2 l2:Int}{s2:LU}{m2 e2:LA}(N:NmOK s)(m1':(s==[116,111,95,118,101,99])=false)(m2':(s==[114,101,115,105,122,101])=true)(h65:evW 65 [.sl 5 [[iA q1,iA l1,.str s1,.sl 1 m1,.sl 5 e1],[iA q2,iA l2,.str s2,.sl 1 m2,.sl 5 e2]],.sl 4 [[iA k1,iA n1,bitsA b1,.sl 4 w1],[iA k2,iA n2,bitsA b2,.sl 4 w2]],.fn 32 []] []=oR (.bool true))(g1:evW 34 [.agg [iA q1,iA l1,.str s1,.sl 1 m1,.sl 5 e1],.agg [iA k1,iA n1,bitsA b1,.sl 4 w1]] []=oR (.bool true))(g2:evW 34 [.agg [iA q2,iA l2,.str s2,.sl 1 m2,.sl 5 e2],.agg [iA k2,iA n2,bitsA b2,.sl 4 w2]] []=oR (.bool true)){kt lt:Int}(h74:evW 74 [.str s,.sl 5 [[iA q1,iA l1,.str s1,.sl 1 m1,.sl 5 e1],[iA q2,iA l2,.str s2,.sl 1 m2,.sl 5 e2]],iA n2] []=oR (.tup [tyA kt lt,.bool true]))(h78:evW 78 [.str s,.sl 5 [[iA q1,iA l1,.str s1,.sl 1 m1,.sl 5 e1],[iA q2,iA l2,.str s2,.sl 1 m2,.sl 5 e2]],iA n2] []=oR (.tup [tyA kt lt,.bool true]))
  (lo:(decide (1≤n2)&&decide (n2≤64))=false→evW 75 [.str s,.sl 4 [[iA k1,iA n1,bitsA b1,.sl 4 w1],[iA k2,iA n2,bitsA b2,.sl 4 w2]],.sl 5 [[iA q1,iA l1,.str s1,.sl 1 m1,.sl 5 e1],[iA q2,iA l2,.str s2,.sl 1 m2,.sl 5 e2]]] []=oR (.tup [vl 0 0 (.sl 1 []),iA 19]))
  (hi:∀ n:Nat,n2=n→1≤n→n≤64→∃ kv nv bs,bs.length≤64∧evW 75 [.str s,.sl 4 [[iA k1,iA n1,bitsA b1,.sl 4 w1],[iA k2,iA n2,bitsA b2,.sl 4 w2]],.sl 5 [[iA q1,iA l1,.str s1,.sl 1 m1,.sl 5 e1],[iA q2,iA l2,.str s2,.sl 1 m2,.sl 5 e2]]] []=oR (.tup [vl kv nv (bitsA bs),okE])∧evW 79 [.str s,.sl 4 [[iA k1,iA n1,bitsA b1,.sl 4 w1],[iA k2,iA n2,bitsA b2,.sl 4 w2]]] []=oR (.tup [vl kv nv (bitsA bs),okE])):Agr [.str s,.sl 4 [[iA k1,iA n1,bitsA b1,.sl 4 w1],[iA k2,iA n2,bitsA b2,.sl 4 w2]],.sl 5 [[iA q1,iA l1,.str s1,.sl 1 m1,.sl 5 e1],[iA q2,iA l2,.str s2,.sl 1 m2,.sl 5 e2]]]:=by
 cases c1:decide (n2<1) with
 | true =>
   have h75:=lo (by rw [decide_eq_false (by have:=of_decide_eq_true c1;omega)];rfl)
   exact agr_err 19 (op_b_err (bs:=[]) h65 N.1 N.2.1 h74 h75 rfl) (rop_rslo N.2.2.1 N.2.2.2.1 N.2.2.2.2 g1 g2 h78 m1' m2' c1)
 | false =>
   cases c2:decide (64<n2) with
   | true =>
     have h75:=lo (by rw [show decide (n2≤64)=false from decide_eq_false (by have:=of_decide_eq_true c2;omega),Bool.and_false])
     exact agr_err 19 (op_b_err (bs:=[]) h65 N.1 N.2.1 h74 h75 rfl) (rop_rshi N.2.2.1 N.2.2.2.1 N.2.2.2.2 g1 g2 h78 m1' m2' c1 c2)
   | false =>
     have d1:=of_decide_eq_false c1
     have d2:=of_decide_eq_false c2
     obtain⟨kv,nv,bs,hl,h75,h79⟩:=hi n2.toNat (by omega) (by omega) (by omega)
     exact⟨kv,nv,bs,kt,lt,0,hl,op_b_ok h65 N.1 N.2.1 h74 h75 (by omega),rop_rsok N.2.2.1 N.2.2.2.1 N.2.2.2.2 g1 g2 h78 m1' m2' c1 c2 h79⟩
def names27:LB:=[[97,110,100],[111,114],[120,111,114],[110,97,110,100],[110,111,114],[120,110,111,114],[61],[47,61],[60],[60,61],[62],[62,61],[43],[45],[42],[47],[109,111,100],[38],[115,104,108],[115,104,114],[115,108,116],[116,111,95,118,101,99],[114,101,115,105,122,101],[110,111,116],[116,111,95,105,110,116],[105,115,95,120],[108,101,110,103,116,104]]
theorem nm_ok{s:LU}(h:s∈names27):NmOK s:=by
 simp only [names27,List.mem_cons,List.not_mem_nil,or_false] at h
 rcases h with rfl|rfl|rfl|rfl|rfl|rfl|rfl|rfl|rfl|rfl|rfl|rfl|rfl|rfl|rfl|rfl|rfl|rfl|rfl|rfl|rfl|rfl|rfl|rfl|rfl|rfl|rfl
 all_goals exact⟨ev_le 60 72 _ _ _ (by kernel_rfl),ev_le 20 73 _ _ _ (by kernel_rfl),ev_le 60 77 _ _ _ (by kernel_rfl),rfl,rfl⟩
theorem valid_len{k l:Int}{s:LU}{L:LB}{es:List TT}(h:validT (.mk k l s L es)=true):0≤l∧l≤64∧(k=1→l=0)∧(k=4→1≤l):=by
 cases h6:(k==6) with
 | true =>
   obtain rfl:k=6:=by simpa using h6
   match es,h with
   | [],h=>simp [validT] at h
   | a::c::r,h=>simp [validT] at h
   | [e],h =>
     simp [validT] at h
     exact⟨by omega,by omega,by simp,by simp⟩
 | false =>
   obtain⟨rfl,h0⟩:=valid_non6 h h6
   unfold valid0 at h0
   split at h0
   ·simp [plainB] at h0
    rename_i hk
    simp at hk
    exact⟨by omega,by omega,fun _=>h0.1,by omega⟩
   ·split at h0
    ·simp [plainB] at h0
     rename_i hk
     simp at hk
     exact⟨by omega,by omega,by omega,by omega⟩
    ·split at h0
     ·simp [plainB] at h0
      rename_i hk
      simp at hk
      exact⟨by omega,by omega,by omega,by omega⟩
     ·cases h0
theorem mm_max{l:Int}:mmD true [iA l,iA 1]=some (iA (max l 1)):=by
 by_cases h:l<1
 ·rw [Int.max_eq_right (by omega)]
  simp [mmD,maxD]
  omega
 ·rw [Int.max_eq_left (by omega)]
  simp [mmD,maxD]
  omega
end Go.Proofs.YtdhcgankmhpgeaaGreat.M
