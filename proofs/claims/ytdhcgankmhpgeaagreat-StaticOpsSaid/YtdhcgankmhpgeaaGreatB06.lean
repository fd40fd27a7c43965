import Derived.Test.YtdhcgankmhpgeaaGreatB02
import Derived.Test.YtdhcgankmhpgeaaGreatB01
set_option linter.all false
namespace Go.Proofs.YtdhcgankmhpgeaaGreat.M
open Go Go.RowKit
def Cfg.upto(C:Cfg)(n:Nat):Cfg:={ C with fuel:=n }
theorem CfgOK.upto{P:Program}{C:Cfg}(h:CfgOK C P)(n:Nat):CfgOK (C.upto n) P:=⟨h.G,h.cat,h.pu,h.draw⟩
end Go.Proofs.YtdhcgankmhpgeaaGreat.M
namespace Go.Proofs.YtdhcgankmhpgeaaGreat.M
open Go
section
variable {w : World} {I I' : Nat → Prop} {pl : Plan}
mutual
theorem rep_nokeys:∀(x:AV){v:Value},keysAV x=[]→Rep w I pl x v→Rep w I nopl x v
 | .int _ _,v,_,h=>by simpa only [Rep] using h
 | .bool _,v,_,h=>by simpa only [Rep] using h
 | .str _,v,_,h=>by simpa only [Rep] using h
 | .nils,v,_,h=>by simpa only [Rep] using h
 | .nilp,v,_,h=>by simpa only [Rep] using h
 | .nilfn,v,_,h=>by simpa only [Rep] using h
 | .nilif,v,_,h=>by simpa only [Rep] using h
 | .nilm,v,_,h=>by simpa only [Rep] using h
 | .undef,v,_,h=>by simp only [Rep]
 | .sl _ _,v,_,h=>by simpa only [Rep] using h
 | .ep _,v,_,h=>by simpa only [Rep] using h
 | .ptr b _,v,hk,_=>by simp [keysAV] at hk
 | .rp b _ _,v,hk,_=>by simp [keysAV] at hk
 | .row b _ _,v,hk,_=>by simp [keysAV] at hk
 | .mp b,v,hk,_=>by simp [keysAV] at hk
 | .fn f cs,v,hk,h=>by
   simp only [keysAV] at hk
   simp only [Rep] at h ⊢
   obtain⟨vs,h1,h2⟩:=h
   exact⟨vs,h1,repL_nokeys cs hk h2⟩
 | .ifc t x,v,hk,h=>by
   simp only [keysAV] at hk
   simp only [Rep] at h ⊢
   obtain⟨u,h1,h2⟩:=h
   exact⟨u,h1,rep_nokeys x hk h2⟩
 | .agg cs,v,hk,h=>by
   simp only [keysAV] at hk
   simp only [Rep] at h ⊢
   obtain⟨vs,h1,h2,h3⟩:=h
   exact⟨vs,h1,h2,repL_nokeys cs hk h3⟩
 | .tup cs,v,hk,h=>by
   simp only [keysAV] at hk
   simp only [Rep] at h ⊢
   obtain⟨vs,h1,h3⟩:=h
   exact⟨vs,h1,repL_nokeys cs hk h3⟩
theorem repL_nokeys:∀(l:List AV){vs:List Value},keysL l=[]→RepL w I pl l vs→RepL w I nopl l vs
 | [],vs,_,h=>by simpa only [RepL] using h
 | x::xs,vs,hk,h=>by
   simp only [keysL,List.append_eq_nil_iff] at hk
   simp only [RepL] at h ⊢
   obtain⟨v,vs',h1,h2,h3⟩:=h
   exact⟨v,vs',h1,rep_nokeys x hk.1 h2,repL_nokeys xs hk.2 h3⟩
end
theorem keysE_flatten:∀(es:List (List AV)),keysE es=[]→keysL es.flatten=[]
 | [],_=>rfl
 | e::es,h=>by
   simp only [keysE,List.append_eq_nil_iff] at h
   have ih:=keysE_flatten es h.2
   rw [List.flatten_cons]
   have key:∀(a b:List AV),keysL a=[]→keysL b=[]→keysL (a++b)=[]:=by
    intro a
    induction a with
    | nil=>intro b _ hb;simpa using hb
    | cons x a iha =>
      intro b ha hb
      simp only [keysL,List.append_eq_nil_iff] at ha
      simp only [List.cons_append,keysL,List.append_eq_nil_iff]
      exact⟨ha.1,iha b ha.2 hb⟩
   exact key e es.flatten h.1 ih
theorem repM_of:∀(xs:List AV){vs:List Value}{g off:Nat},RepL w I nopl xs vs→(∀ i u,vs[i]?=some u→cellAt w g (off+i)=some u)→(∀ u∈vs,u.oneCell'=true)→RepM w I nopl xs g off
 | [],vs,g,off,_,_,_=>by simp only [RepM]
 | x::xs,vs,g,off,h,hc,h1=>by
   simp only [RepL] at h
   obtain⟨v,vs',rfl,h2,h3⟩:=h
   simp only [RepM]
   refine⟨⟨v,hc 0 v (by simp),h1 v (by simp),h2⟩,repM_of xs h3 (fun i u hu=>?_) (fun u hu=>h1 u (by simp [hu]))⟩
   have:=hc (i+1) u (by simpa using hu)
   rwa [show off+1+i=off+(i+1) by omega]
theorem repE_of{sz:Nat}:∀(es:List (List AV)){vs:List Value}{g off:Nat},(∀ e∈es,e.length=sz)→RepL w I nopl es.flatten vs→(∀ i u,vs[i]?=some u→cellAt w g (off+i)=some u)→(∀ u∈vs,u.oneCell'=true)→RepE w I nopl sz es g off
 | [],vs,g,off,_,_,_,_=>by simp only [RepE]
 | e::es,vs,g,off,hl,h,hc,h1=>by
   rw [List.flatten_cons] at h
   have hsplit:∃ v1 v2,vs=v1++v2∧RepL w I nopl e v1∧RepL w I nopl es.flatten v2:=by
    clear hc h1 hl
    induction e generalizing vs with
    | nil=>exact⟨[],vs,rfl,by simp only [RepL],by simpa using h⟩
    | cons x e ih =>
      simp only [List.cons_append,RepL] at h
      obtain⟨v,vs',rfl,h2,h3⟩:=h
      obtain⟨v1,v2,rfl,h4,h5⟩:=ih _ h3
      exact⟨v::v1,v2,rfl,by simp only [RepL];exact⟨v,v1,rfl,h2,h4⟩,h5⟩
   obtain⟨v1,v2,rfl,h2,h3⟩:=hsplit
   have hlen:v1.length=sz:=(repL_length h2).trans (hl e (by simp))
   simp only [RepE]
   refine⟨hl e (by simp),repM_of e h2 (fun i u hu=>hc i u ?_) (fun u hu=>h1 u (by simp [hu])),repE_of es (fun e' he'=>hl e' (by simp [he'])) h3 (fun i u hu=>?_) (fun u hu=>h1 u (by simp [hu]))⟩
   ·rw [List.getElem?_append_left (List.getElem?_eq_some_iff.1 hu).1]
    exact hu
   ·have:=hc (sz+i) u (by rw [List.getElem?_append_right (by omega),hlen,Nat.add_sub_cancel_left];exact hu)
    rwa [show off+sz+i=off+(sz+i) by omega]
end
mutual
def subAV(b sz:Nat)(es:List (List AV)):AV→AV
 | .row c o n=>if Nat.beq b c then (if Nat.ble (o+n) es.length then .sl sz ((es.drop o).take n) else .undef) else .row c o n
 | .ptr c o=>if Nat.beq b c then .undef else .ptr c o
 | .rp c i o=>if Nat.beq b c then .undef else .rp c i o
 | .mp c=>if Nat.beq b c then .undef else .mp c
 | .fn f cs => .fn f (subL b sz es cs)
 | .agg cs => .agg (subL b sz es cs)
 | .tup cs => .tup (subL b sz es cs)
 | .ifc t x => .ifc t (subAV b sz es x)
 | x=>x
def subL(b sz:Nat)(es:List (List AV)):List AV→List AV
 | []=>[]
 | x::xs=>subAV b sz es x::subL b sz es xs
end
def subE(b sz:Nat)(es:List (List AV)):List (List AV)→List (List AV)
 | []=>[]
 | e::l=>subL b sz es e::subE b sz es l
def subM(b sz:Nat)(es:List (List AV)):List (List UInt8×AV)→List (List UInt8×AV)
 | []=>[]
 | (s,x)::l=>(s,subAV b sz es x)::subM b sz es l
def subO(b sz:Nat)(es:List (List AV)):Obj'→Obj'
 | .var T cs => .var T (subL b sz es cs)
 | .arr T z l => .arr T z (subE b sz es l)
 | .mapo l => .mapo (subM b sz es l)
 | .dead => .dead
section
variable {w : World} {I I' : Nat → Prop} {pl : Plan} {b sz : Nat} {es : List (List AV)}
variable (hI : ∀ g, I g → I' g) (hrow : ∀ o n v, o + n ≤ es.length → Rep w I pl (.row b o n) v → Rep w I' pl (.sl sz ((es.drop o).take n)) v)
theorem rep_incl{x:AV}{v:Value}(hI:∀ g,I g→I' g)(h:Rep w I pl x v):Rep w I' pl x v:=Rep.mono (Keeps.refl I w) hI (Plan.le_refl _) x h
include hI hrow
mutual
theorem sub_rep:∀(x:AV){v:Value},Rep w I pl x v→Rep w I' pl (subAV b sz es x) v
 | .row c o n,v,h=>by
   unfold subAV
   split
   ·rename_i e
    have:=Nat.eq_of_beq_eq_true e
    subst this
    split
    ·rename_i hle
     exact hrow o n v (Nat.le_of_ble_eq_true hle) h
    ·simp only [Rep]
   ·exact rep_incl hI h
 | .ptr c o,v,h=>by
   unfold subAV
   split
   ·simp only [Rep]
   ·exact rep_incl hI h
 | .rp c i o,v,h=>by
   unfold subAV
   split
   ·simp only [Rep]
   ·exact rep_incl hI h
 | .mp c,v,h=>by
   unfold subAV
   split
   ·simp only [Rep]
   ·exact rep_incl hI h
 | .fn f cs,v,h=>by
   unfold subAV
   simp only [Rep] at h ⊢
   obtain⟨vs,h1,h2⟩:=h
   exact⟨vs,h1,sub_repL cs h2⟩
 | .agg cs,v,h=>by
   unfold subAV
   simp only [Rep] at h ⊢
   obtain⟨vs,h1,h2,h3⟩:=h
   exact⟨vs,h1,h2,sub_repL cs h3⟩
 | .tup cs,v,h=>by
   unfold subAV
   simp only [Rep] at h ⊢
   obtain⟨vs,h1,h2⟩:=h
   exact⟨vs,h1,sub_repL cs h2⟩
 | .ifc t x,v,h=>by
   unfold subAV
   simp only [Rep] at h ⊢
   obtain⟨u,h1,h2⟩:=h
   exact⟨u,h1,sub_rep x h2⟩
 | .int _ _,v,h=>rep_incl hI h
 | .bool _,v,h=>rep_incl hI h
 | .str _,v,h=>rep_incl hI h
 | .sl _ _,v,h=>rep_incl hI h
 | .nils,v,h=>rep_incl hI h
 | .nilp,v,h=>rep_incl hI h
 | .nilfn,v,h=>rep_incl hI h
 | .nilif,v,h=>rep_incl hI h
 | .nilm,v,h=>rep_incl hI h
 | .ep _,v,h=>rep_incl hI h
 | .undef,v,h=>rep_incl hI h
theorem sub_repL:∀(l:List AV){vs:List Value},RepL w I pl l vs→RepL w I' pl (subL b sz es l) vs
 | [],vs,h=>by simpa only [subL,RepL] using h
 | x::xs,vs,h=>by
   simp only [subL,RepL] at h ⊢
   obtain⟨v,vs',h1,h2,h3⟩:=h
   exact⟨v,vs',h1,sub_rep x h2,sub_repL xs h3⟩
end
omit hI hrow in
theorem subL_append(l m:List AV):subL b sz es (l++m)=subL b sz es l++subL b sz es m:=by
 induction l with
 | nil=>rfl
 | cons x l ih=>simp only [List.cons_append,subL,ih]
omit hI hrow in
theorem subL_length(l:List AV):(subL b sz es l).length=l.length:=by
 induction l with
 | nil=>rfl
 | cons x l ih=>simp only [subL,List.length_cons,ih]
omit hI hrow in
theorem subE_length(l:List (List AV)):(subE b sz es l).length=l.length:=by
 induction l with
 | nil=>rfl
 | cons x l ih=>simp only [subE,List.length_cons,ih]
omit hI hrow in
theorem subE_flatten(l:List (List AV)):(subE b sz es l).flatten=subL b sz es l.flatten:=by
 induction l with
 | nil=>rfl
 | cons x l ih=>simp only [subE,List.flatten_cons,subL_append,ih]
omit hI hrow in
theorem subE_mem{l:List (List AV)}{z:Nat}(h:∀ e∈l,e.length=z):∀ e∈subE b sz es l,e.length=z:=by
 induction l with
 | nil=>intro e he;cases he
 | cons x l ih =>
   intro e he
   simp only [subE,List.mem_cons] at he
   rcases he with rfl|he
   ·rw [subL_length];exact h x (by simp)
   ·exact ih (fun e he=>h e (by simp [he])) e he
theorem sub_repMap:∀(l:List (List UInt8×AV)){ms:List MapEntry},RepMap w I pl l ms→RepMap w I' pl (subM b sz es l) ms
 | [],ms,h=>by simpa only [subM,RepMap] using h
 | (s,x)::l,ms,h=>by
   simp only [subM,RepMap] at h ⊢
   obtain⟨e,ms',h1,h2,h3,h4⟩:=h
   exact⟨e,ms',h1,h2,sub_rep hI hrow x h3,sub_repMap l h4⟩
theorem sub_obj{c:Nat}{o:Obj'}(h:ObjRep w I pl c o):ObjRep w I' pl c (subO b sz es o):=by
 cases o with
 | var T cs =>
   obtain⟨g,z,cap,vs,h1,h2,h3,h4⟩:=h
   exact⟨g,z,cap,vs,h1,h2,h3,sub_repL hI hrow cs h4⟩
 | arr T z l =>
   rcases h with ⟨h1,rfl⟩|⟨g,cap,vs,h1,h2,h3,h4,h5,h6,h7,h8⟩
   ·exact .inl ⟨h1,rfl⟩
   ·refine .inr ⟨g,cap,vs,h1,h2,by rw [subE_length];exact h3,h4,h5,subE_mem h6,by rw [subE_length];exact h7,?_⟩
    rw [subE_flatten,subE_length]
    exact sub_repL hI hrow _ h8
 | mapo l =>
   obtain⟨g,z,cap,ms,clock,h1,h2,h3⟩:=h
   exact⟨g,z,cap,ms,clock,h1,h2,sub_repMap hI hrow l h3⟩
 | dead=>trivial
omit hI hrow in
theorem subO_live(o:Obj'):(subO b sz es o).live=o.live:=by cases o<;>rfl
end
def mapF{α:Type}(f:α→α):List (Nat×α)→List (Nat×α)
 | []=>[]
 | (k,x)::l=>(k,f x)::mapF f l
theorem look_mapF{α:Type}(f:α→α)(k:Nat):∀(l:List (Nat×α)),look k (mapF f l)=(look k l).map f
 | []=>rfl
 | (j,x)::l=>by
   simp only [mapF,look_cons]
   split
   ·rfl
   ·exact look_mapF f k l
def subD(b sz:Nat)(es:List (List AV)):Df→Df
 | []=>[]
 | (g,l)::r=>(g,subL b sz es l)::subD b sz es r
def freeze(b:Nat)(fr:Fr)(hp:Hp)(df:Df):Option (Fr×Hp×Df) :=
 match look b hp with
 | some (.arr _ sz es)=>if (keysE es).isEmpty then some (mapF (subAV b sz es) fr,(b,.dead)::mapF (subO b sz es) hp,subD b sz es df) else none
 | _=>none
section
variable {c : Ctx} {nt : Nat} {fr fr' : Fr} {hp hp' : Hp} {df df' : Df} {a : Act} {w : World} {I : Nat → Prop} {pl : Plan} {b : Nat}
theorem cell_block{g:Nat}{vs:List Value}{T:Nat}(h:w.heap[g]?=some (.cells vs.toArray T (0,0))){j:Nat}{u:Value}(hu:vs[j]?=some u):cellAt w g j=some u:=by
 unfold cellAt World.cell?
 simp [h,hu]
theorem frozen_row(hr:HR w I pl hp){T sz:Nat}{es:List (List AV)}(hb:look b hp=some (.arr T sz es))(hk:keysE es=[]){I':Nat→Prop}(hI:∀ g,I g→I' g)(hg:∀ g z cap,pl b=some (.blk g z cap)→I' g) :
  ∀ o n v,o+n≤es.length→Rep w I pl (.row b o n) v→Rep w I' pl (.sl sz ((es.drop o).take n)) v:=by
 intro o n v hle h
 simp only [Rep] at h ⊢
 rcases h with ⟨h1,rfl,rfl,rfl⟩|⟨g,z,cap,h1,h2,rfl⟩
 ·exact⟨none,0,0,rfl,by simp,Nat.le_refl _,Nat.zero_le _,.inl (by simp)⟩
 ·rcases hr.obj b _ hb with ⟨h3,rfl⟩|⟨g2,cap2,vs,k1,k2,k3,k4,k5,k6,k7,k8⟩
  ·rw [h1] at h3;cases h3
  ·rw [h1] at k1
   injection k1 with k1
   injection k1 with e1 e2 e3
   subst e1 e2 e3
   have hlen:((es.drop o).take n).length=n:=by simp;omega
   refine⟨_,_,_,rfl,hlen,by omega,by omega,.inr ⟨g,o*z,rfl,hg _ _ _ h1,?_⟩⟩
   have hfl:RepL w I nopl es.flatten (vs.take (es.length*z)):=repL_nokeys _ (keysE_flatten es hk) k8
   have hsub:RepL w I nopl ((es.drop o).take n).flatten (((vs.take (es.length*z)).drop (o*z)).take (n*z)):=by
    have e1:((es.drop o).take n).flatten=(es.flatten.drop (o*z)).take (n*z):=by
     have hd:(es.drop o).flatten=es.flatten.drop (o*z):=by
      have:es.flatten=(es.take o).flatten++(es.drop o).flatten:=by rw [← List.flatten_append,List.take_append_drop]
      rw [this]
      have hl:(es.take o).flatten.length=o*z:=by
       rw [flat_len (es:=es.take o) (fun e he=>k6 e (List.mem_of_mem_take he))]
       congr 1
       simp;omega
      rw [← hl,List.drop_left]
     rw [← hd]
     have:(es.drop o).flatten=((es.drop o).take n).flatten++((es.drop o).drop n).flatten:=by rw [← List.flatten_append,List.take_append_drop]
     rw [this]
     have hl:((es.drop o).take n).flatten.length=n*z:=by
      rw [flat_len (es:=(es.drop o).take n) (fun e he=>k6 e (List.mem_of_mem_drop (List.mem_of_mem_take he)))]
      rw [hlen]
     rw [← hl,List.take_left]
    rw [e1]
    exact repL_take _ (repL_drop _ hfl)
   refine(repE_of (I:=I') _ (fun e he=>k6 e (List.mem_of_mem_drop (List.mem_of_mem_take he))) (RepL.mono (Keeps.refl I w) hI (Plan.le_refl _) _ hsub) (fun i u hu=>cell_block k2 ?_) (fun u hu=>k7 u (List.mem_of_mem_drop (List.mem_of_mem_take hu))))
   rw [List.getElem?_take] at hu
   split at hu
   ·rw [List.getElem?_drop,List.getElem?_take] at hu
    split at hu
    ·exact hu
    ·cases hu
   ·cases hu
theorem subD_ok{I':Nat→Prop}{sz:Nat}{es:List (List AV)}(hI:∀ g,I g→I' g)(hrow:∀ o n v,o+n≤es.length→Rep w I pl (.row b o n) v→Rep w I' pl (.sl sz ((es.drop o).take n)) v):∀(df:Df){ds:List Deferred},DfOK w I pl df ds→DfOK w I' pl (subD b sz es df) ds
 | [],ds,h=>by simpa only [subD,DfOK] using h
 | (g,args)::r,ds,h=>by
   simp only [subD,DfOK] at h ⊢
   obtain⟨d,ds',rfl,⟨caps,vs,h1,h2,h3⟩,h4⟩:=h
   exact⟨d,ds',rfl,⟨caps,vs,h1,h2,sub_repL hI hrow args h3⟩,subD_ok hI hrow r h4⟩
theorem freeze_ok(h:SR c nt fr hp df a w I pl)(hf:freeze b fr hp df=some (fr',hp',df')):∃ I',SR c nt fr' hp' df' a w I' pl∧∀ k,look k hp=none→look k hp'=none:=by
 unfold freeze at hf
 split at hf
 ·rename_i T sz es hb
  split at hf
  ·rename_i hk
   have hk':keysE es=[]:=by simpa using hk
   injection hf with hf
   injection hf with e1 hf
   injection hf with e2 e3
   subst e1 e2 e3
   let I':Nat→Prop:=fun g=>I g∨∃ z cap,pl b=some (.blk g z cap)
   have hI:∀ g,I g→I' g:=fun g hg => .inl hg
   have hrow:=frozen_row h.hr hb hk' hI (fun g z cap hg => .inr ⟨z,cap,hg⟩)
   have hlk:∀ k o,look k ((b,Obj'.dead)::mapF (subO b sz es) hp)=some o→(k=b∧o = .dead)∨(k≠b∧∃ o0,look k hp=some o0∧o=subO b sz es o0):=by
    intro k o hko
    rw [look_cons] at hko
    split at hko
    ·rename_i e
     injection hko with hko
     exact .inl ⟨e,hko.symm⟩
    ·rename_i e
     rw [look_mapF] at hko
     obtain⟨o0,h1,h2⟩:=Option.map_eq_some_iff.1 hko
     exact .inr ⟨e,o0,h1,h2.symm⟩
   have hown:∀ g,Own ((b,Obj'.dead)::mapF (subO b sz es) hp) pl g→Own hp pl g∧∀ z cap,pl b≠some (.blk g z cap):=by
    rintro g ⟨k,o,z,cap,h1,h2,h3⟩
    rcases hlk k o h1 with ⟨_,rfl⟩|⟨hne,o0,h4,rfl⟩
    ·cases h2
    ·rw [subO_live] at h2
     refine⟨⟨k,o0,z,cap,h4,h2,h3⟩,fun z' cap' hpb=>hne ?_⟩
     exact h.hr.inj k b o0 _ g z cap z' cap' h4 hb h2 rfl h3 hpb
   have hbo:∀ g z cap,pl b=some (.blk g z cap)→Own hp pl g:=fun g z cap hg=>⟨b,_,z,cap,hb,rfl,hg⟩
   refine⟨I',⟨⟨?_,?_,?_,?_,?_,⟨.inl h.hr.gv.at0,h.hr.gv.int⟩⟩,?_,h.sz,?_,h.win,subD_ok hI hrow df h.df⟩,?_⟩
   ·intro k o hko
    rcases hlk k o hko with ⟨rfl,rfl⟩|⟨hne,o0,h4,rfl⟩
    ·trivial
    ·exact sub_obj hI hrow (h.hr.obj k o0 h4)
   ·intro k k' o o' g z cap z' cap' h1 h2 l1 l2 p1 p2
    rcases hlk k o h1 with ⟨_,rfl⟩|⟨hne,o0,h4,rfl⟩
    ·cases l1
    ·rcases hlk k' o' h2 with ⟨_,rfl⟩|⟨hne',o0',h4',rfl⟩
     ·cases l2
     ·rw [subO_live] at l1 l2
      exact h.hr.inj k k' o0 o0' g z cap z' cap' h4 h4' l1 l2 p1 p2
   ·rintro g (hg|⟨z,cap,hg⟩)
    ·exact h.hr.imm g hg
    ·exact h.hr.low g (hbo g z cap hg)
   ·rintro g hg (hi|⟨z,cap,hi⟩)
    ·exact h.hr.dis g (hown g hg).1 hi
    ·exact(hown g hg).2 z cap hi
   ·exact fun g hg=>h.hr.low g (hown g hg).1
   ·intro t x hx
    rw [look_mapF] at hx
    obtain⟨x0,h1,rfl⟩:=Option.map_eq_some_iff.1 hx
    obtain⟨v,h2,h3⟩:=h.fr t x0 h1
    exact⟨v,h2,sub_rep hI hrow x0 h3⟩
   ·refine { h.stp with inc:=fun g hg=>hI g (h.stp.inc g hg),own:=fun g hg=>h.stp.own g (hown g hg).1,imm:=?_ }
    rintro g (hg|⟨z,cap,hg⟩)
    ·exact h.stp.imm g hg
    ·exact .inr (h.stp.own g (hbo g z cap hg))
   ·intro k hn
    rw [look_cons]
    split
    ·rename_i e
     subst e
     rw [hn] at hb;cases hb
    ·rw [look_mapF,hn];rfl
  ·cases hf
 ·cases hf
end
def isDefer:Op→Bool
 | .defer _=>true
 | _=>false
section
variable {G : Gl} {call : CallF} {nt nx : Nat} {ops : Array Oper}
end
end Go.Proofs.YtdhcgankmhpgeaaGreat.M
namespace Go.Proofs.YtdhcgankmhpgeaaGreat.M
open Go Go.RowKit
structure Keep where
 keep:Nat→Option (List Nat)
 frz:Nat→List Nat
def frzK:Nat→List Nat→St→Option St
 | 0,_,_=>none
 | n+1,[],st=>some st
 | n+1,b::r,st=>match look b st.hp with
   | some (.arr _ _ es)=>match keysE es with
     | []=>match freeze b st.fr st.hp st.df with
       | some (fr,hp,df)=>frzK n r ⟨fr,hp,st.nx,df⟩
       | none=>none
     | ks=>frzK n (ks++b::r) st
   | some (.var _ cs)=>frzK n (keysL cs++r) st
   | _=>frzK n r st
def keysT(fr:Fr):List Nat→List Nat
 | []=>[]
 | t::r=>match look t fr with
   | some v=>keysAV v++keysT fr r
   | none=>keysT fr r
def frzTs(l:List Nat)(st:St):Option St:=match l with
 | []=>some st
 | l=>frzK 100 (keysT st.fr l) st
def frzEnd(keep:Keep)(e:AX)(st:St):Option St:=match e with
 | .pan _=>some st
 | _=>frzTs (keep.frz 99999) st
def looks(fr:Fr):List Nat→Option (List AV)
 | []=>some []
 | t::r=>match look t fr,looks fr r with
   | some v,some l=>some (v::l)
   | _,_=>none
def zipK:List Nat→List AV→Fr
 | t::ts,v::vs=>(t,v)::zipK ts vs
 | _,_=>[]
def normSt(kn:Nat)(keep:Option (List Nat))(st:St):Option St :=
 match keep with
 | none=>some st
 | some l=>match st.df,looks st.fr l with
   | [],some vs=>match leave kn st.hp (.tup vs) with
     | some (.tup vs',objs)=>some ⟨zipK l vs',numbered 0 objs,objs.length,[]⟩
     | _=>none
   | _,_=>none
def loop2{R:Type}(norm:St→Option St)(body:St→(AX→St→Option R)→Option R):Nat→St→(AX→St→Option R)→Option R
 | 0,st,k=>none
 | n+1,st,k=>match norm st with
   | none=>none
   | some st=>body st fun e st'=>match e with
     | .normal=>loop2 norm body n st' k
     | e=>k e st'
def firstId:Code→Nat
 | .region id _ _=>id
 | .seq a _=>firstId a
 | .block _ a=>firstId a
 | .loop a=>firstId a
 | _=>0
section
variable {G : Gl} {P : Program} {c : Ctx} {w w' : World} {I I' : Nat → Prop} {pl pl' : Plan} {hp : Hp} {R : Type}
theorem leave_ok2{k:Nat}{r r':AV}{objs':List Obj'}(h:leave k hp r=some (r',objs'))(hr:HR w I pl hp){u:Value}(hu:Rep w I pl r u) :
  ∃ pl2,HR w I pl2 (numbered 0 objs')∧Rep w I pl2 r' u∧(∀ g,Own (numbered 0 objs') pl2 g→Own hp pl g)∧(∀ b,b<k→pl2 b=pl b)∧(∀ b,objs'.length≤b→pl2 b=none)∧k≤objs'.length:=by
 unfold leave at h
 simp only at h
 generalize hkeys:reach hp 200 (List.range k++keysAV r) []=keys at h
 have hnd:keys.Nodup:=by rw [← hkeys];exact reach_nodup hp _ _ _ (by simp)
 split at h
 ·rename_i htake
  have htake':keys.take k=List.range k:=by simpa using htake
  split at h
  ·rename_i r2 objs hr2 hobjs
   injection h with h
   injection h with h1 h2
   subst h1 h2
   obtain⟨ho1,ho2⟩:=objsOf_some hobjs
   let pl2:Plan:=fun i=>(keys[i]?).bind pl
   have hρ:Carries (fun b=>idx b keys 0) pl pl2:=by
    intro b i p hb hp'
    obtain⟨_,h2⟩:=idx_some hb
    simp only [Nat.sub_zero] at h2
    simp only [pl2,h2,Option.bind_some]
    exact hp'
   have hlk:∀ i oc,look i (numbered 0 objs)=some oc→∃ b o,keys[i]?=some b∧look b hp=some o∧renO (fun b=>idx b keys 0) o=some oc:=by
    intro i oc hi
    rw [look_num] at hi
    have hlt:i<keys.length:=by rw [← ho1];exact(List.getElem?_eq_some_iff.1 hi).1
    obtain⟨o,o',k1,k2,k3⟩:=ho2 i _ (List.getElem?_eq_getElem hlt)
    rw [hi] at k3
    injection k3 with k3
    exact⟨_,o,List.getElem?_eq_getElem hlt,k1,by rw [k2,k3]⟩
   have hown:∀ g,Own (numbered 0 objs) pl2 g→Own hp pl g:=by
    rintro g ⟨i,oc,sz,cap,h1,h2,h3⟩
    obtain⟨b,o,k1,k2,k3⟩:=hlk i oc h1
    have hl:=(renO_ok (w:=w) (I:=I) (b:=b) (b':=i) hρ k3 (fun p hp'=>by simp only [pl2,k1,Option.bind_some];exact hp') (hr.obj b o k2)).2
    simp only [pl2,k1,Option.bind_some] at h3
    exact⟨b,o,sz,cap,k2,by rw [← hl];exact h2,h3⟩
   refine⟨pl2,⟨?_,?_,hr.imm,fun g hg=>hr.dis g (hown g hg),fun g hg=>hr.low g (hown g hg),hr.gv⟩,ren_ok hρ _ hr2 hu,hown,?_,?_,?_⟩
   ·intro i oc hi
    obtain⟨b,o,k1,k2,k3⟩:=hlk i oc hi
    exact(renO_ok (b:=b) (b':=i) hρ k3 (fun p hp'=>by simp only [pl2,k1,Option.bind_some];exact hp') (hr.obj b o k2)).1
   ·intro i i' oc oc' g sz cap sz' cap' h1 h2 l1 l2 p1 p2
    obtain⟨b,o,k1,k2,k3⟩:=hlk i oc h1
    obtain⟨b',o',k1',k2',k3'⟩:=hlk i' oc' h2
    have hl:=(renO_ok (w:=w) (I:=I) (b:=b) (b':=i) hρ k3 (fun p hp'=>by simp only [pl2,k1,Option.bind_some];exact hp') (hr.obj b o k2)).2
    have hl':=(renO_ok (w:=w) (I:=I) (b:=b') (b':=i') hρ k3' (fun p hp'=>by simp only [pl2,k1',Option.bind_some];exact hp') (hr.obj b' o' k2')).2
    simp only [pl2,k1,Option.bind_some] at p1
    simp only [pl2,k1',Option.bind_some] at p2
    have e:=hr.inj b b' o o' g sz cap sz' cap' k2 k2' (by rw [← hl];exact l1) (by rw [← hl'];exact l2) p1 p2
    subst e
    obtain⟨hi,e1⟩:=List.getElem?_eq_some_iff.1 k1
    obtain⟨hi',e2⟩:=List.getElem?_eq_some_iff.1 k1'
    exact(List.getElem_inj hnd).1 (e1.trans e2.symm)
   ·intro b hb
    have e:keys[b]?=some b:=by
     have:=congrArg (fun l:List Nat=>l[b]?) htake'
     simp only [List.getElem?_take,hb,if_true] at this
     rw [this]
     simp [hb]
    simp only [pl2,e,Option.bind_some]
   ·intro b hb
    have e:keys[b]?=none:=List.getElem?_eq_none (by rw [← ho1];exact hb)
    simp only [pl2,e,Option.bind_none]
   ·have:=congrArg List.length htake'
    simp at this
    omega
  ·cases h
 ·cases h
theorem frzK_ok{nt:Nat}{a:Act}:∀(n:Nat)(l:List Nat){st st':St}{I:Nat→Prop},frzK n l st=some st'→SS c nt st a w I pl→∃ I',SS c nt st' a w I' pl
 | 0,l,st,st',I,h,hs=>by cases h
 | n+1,[],st,st',I,h,hs=>by
   simp only [frzK,Option.some.injEq] at h
   subst h
   exact⟨I,hs⟩
 | n+1,b::r,st,st',I,h,hs=>by
   unfold frzK at h
   split at h
   ·split at h
    ·split at h
     ·rename_i fr hp df hf
      obtain⟨I',h1,h2⟩:=freeze_ok hs.sr hf
      exact frzK_ok n r h ⟨h1,fun b hb=>⟨(hs.free b hb).1,h2 b (hs.free b hb).2⟩,hs.low⟩
     ·cases h
    ·exact frzK_ok n _ h hs
   ·exact frzK_ok n _ h hs
   ·exact frzK_ok n _ h hs
theorem frzTs_ok{nt:Nat}{a:Act}{l:List Nat}{st st':St}{I:Nat→Prop}(h:frzTs l st=some st')(hs:SS c nt st a w I pl):∃ I',SS c nt st' a w I' pl:=by
 unfold frzTs at h
 split at h
 ·injection h with h
  subst h
  exact⟨I,hs⟩
 ·exact frzK_ok 100 _ h hs
theorem frzEnd_at{G:Gl}{nt kn:Nat}{catchF errT:Nat}{F:Func}{keep:Keep}{r:AE×List Obj'}{e:Exit}{a:Act}{w:World} (h:At c nt (fun e st=>match frzEnd keep e st with
   | none=>none
   | some st=>finish G catchF errT F kn e st) r e a w):At c nt (finish G catchF errT F kn) r e a w:=by
 obtain⟨ae,st,I,pl,h1,h2,h3⟩:=h
 cases hf:frzEnd keep ae st with
 | none=>simp [hf] at h3
 | some st' =>
   simp only [hf] at h3
   cases ae with
   | pan v =>
     simp only [frzEnd,Option.some.injEq] at hf
     subst hf
     exact⟨.pan v,st,I,pl,h1,h2,h3⟩
   | normal=>obtain⟨I',k⟩:=frzTs_ok hf h2;exact⟨.normal,st',I',pl,h1,k,h3⟩
   | exit j=>obtain⟨I',k⟩:=frzTs_ok hf h2;exact⟨.exit j,st',I',pl,h1,k,h3⟩
   | ret=>obtain⟨I',k⟩:=frzTs_ok hf h2;exact⟨.ret,st',I',pl,h1,k,h3⟩
theorem looks_ok{fr:Fr}{tm:Array Value}(hf:FR fr tm w I pl):∀{l:List Nat}{vs:List AV},looks fr l=some vs→∃ us:List Value,RepL w I pl vs us∧us.length=l.length∧∀(i t:Nat),l[i]?=some t→∃ u,us[i]?=some u∧tm[t]?=some u
 | [],vs,h=>by
   simp only [looks,Option.some.injEq] at h
   subst h
   exact⟨[],by simp [RepL],rfl,fun i t ht=>by simp at ht⟩
 | t::l,vs,h=>by
   unfold looks at h
   split at h
   ·rename_i v l' hv hl
    injection h with h
    subst h
    obtain⟨us,h1,h2,h3⟩:=looks_ok hf hl
    obtain⟨u,k1,k2⟩:=hf t v hv
    refine⟨u::us,?_,by simp [h2],?_⟩
    ·simp only [RepL]
     exact⟨u,us,rfl,k2,h1⟩
    ·intro i s hs
     cases i with
     | zero =>
       simp only [List.getElem?_cons_zero,Option.some.injEq] at hs
       subst hs
       exact⟨u,by simp,k1⟩
     | succ i =>
       obtain⟨u',q1,q2⟩:=h3 i s (by simpa using hs)
       exact⟨u',by simpa using q1,q2⟩
   ·cases h
theorem zipK_ok{tm:Array Value}:∀{l:List Nat}{vs:List AV}{us:List Value},RepL w I pl vs us→(∀(i t:Nat),l[i]?=some t→∃ u,us[i]?=some u∧tm[t]?=some u)→FR (zipK l vs) tm w I pl
 | [],vs,us,_,_,t,x,hx=>by
   simp [zipK,look] at hx
 | s::l,[],us,_,_,t,x,hx=>by
   simp [zipK,look] at hx
 | s::l,v::vs,us,h,hu,t,x,hx=>by
   simp only [RepL] at h
   obtain⟨u,us',rfl,k1,k2⟩:=h
   unfold zipK at hx
   rw [look_cons] at hx
   split at hx
   ·rename_i e
    subst e
    injection hx with hx
    subst hx
    obtain⟨u',q1,q2⟩:=hu 0 t (by simp)
    simp only [List.getElem?_cons_zero,Option.some.injEq] at q1
    subst q1
    exact⟨u,q2,k1⟩
   ·exact zipK_ok k2 (fun i t' ht'=>by
     obtain⟨u',q1,q2⟩:=hu (i+1) t' (by simpa using ht')
     exact⟨u',by simpa using q1,q2⟩) t x hx
theorem norm_ok{kn nt:Nat}{keep:Option (List Nat)}{st st':St}{a:Act}(hkn:kn=c.k)(hcp:∀ b,c.k≤b→c.pl b=none)(hn:normSt kn keep st=some st')(hs:SS c nt st a w I pl):∃ I' pl',SS c nt st' a w I' pl':=by
 unfold normSt at hn
 cases keep with
 | none =>
   injection hn with hn
   subst hn
   exact⟨I,pl,hs⟩
 | some l =>
   simp only at hn
   split at hn
   ·rename_i vs hdf hvs
    split at hn
    ·rename_i vs' objs hlv
     injection hn with hn
     subst hn
     subst hkn
     obtain⟨us,h1,h2,h3⟩:=looks_ok hs.sr.fr hvs
     have hu:Rep w I pl (.tup vs) (.tuple us.toArray):=by
      simp only [Rep]
      exact⟨us,rfl,h1⟩
     obtain⟨pl2,k1,k2,k3,k4,k5,k6⟩:=leave_ok2 hlv hs.sr.hr hu
     simp only [Rep] at k2
     obtain⟨us',e,k2⟩:=k2
     have e':us'=us:=by simpa using e.symm
     subst e'
     refine⟨I,pl2,⟨⟨k1,zipK_ok k2 h3,hs.sr.sz,?_,fun b hb=>(k4 b hb).trans (hs.sr.win b hb),?_⟩,fun b hb=>⟨k5 b hb,?_⟩,k6⟩⟩
     ·have h:=hs.sr.stp
      refine { h with ple:=?_,own:=fun g hg=>h.own g (k3 g hg) }
      intro b p hb
      have hlt:b<c.k:=by
       rcases Nat.lt_or_ge b c.k with h|h
       ·exact h
       ·rw [hcp b h] at hb;cases hb
      rw [k4 b hlt,hs.sr.win b hlt]
      exact hb
     ·have:=hs.sr.df
      rw [hdf] at this
      simpa [DfOK] using this
     ·simp only
      rw [look_num]
      exact List.getElem?_eq_none hb
    ·cases hn
   ·cases hn
end
end Go.Proofs.YtdhcgankmhpgeaaGreat.M
namespace Go.Proofs.YtdhcgankmhpgeaaGreat.M
open Go
def codeLoops:Code→List Code
 | .seq a b=>codeLoops a++codeLoops b
 | .cond _ a b=>codeLoops a++codeLoops b
 | .block _ a=>codeLoops a
 | .loop c=>c::codeLoops c
 | _=>[]
def bodyOf(F:Func):Code:=F.body.getD .skip
def lp(F:Func)(i:Nat):Code:=(codeLoops (bodyOf F)).getD i .skip
mutual
theorem ren_pure(ρ:Nat→Option Nat):∀(x:AV),keysAV x=[]→ren ρ x=some x
 | .ptr b _,h=>by simp [keysAV] at h
 | .rp b _ _,h=>by simp [keysAV] at h
 | .row b _ _,h=>by simp [keysAV] at h
 | .mp b,h=>by simp [keysAV] at h
 | .fn f cs,h=>by
   simp only [keysAV] at h
   simp [ren,renL_pure ρ cs h]
 | .agg cs,h=>by
   simp only [keysAV] at h
   simp [ren,renL_pure ρ cs h]
 | .tup cs,h=>by
   simp only [keysAV] at h
   simp [ren,renL_pure ρ cs h]
 | .ifc t v,h=>by
   simp only [keysAV] at h
   simp [ren,ren_pure ρ v h]
 | .int _ _,_=>rfl
 | .bool _,_=>rfl
 | .str _,_=>rfl
 | .sl _ _,_=>rfl
 | .nils,_=>rfl
 | .nilp,_=>rfl
 | .nilfn,_=>rfl
 | .nilif,_=>rfl
 | .nilm,_=>rfl
 | .ep _,_=>rfl
 | .undef,_=>rfl
theorem renL_pure(ρ:Nat→Option Nat):∀(l:List AV),keysL l=[]→renL ρ l=some l
 | [],_=>rfl
 | x::xs,h=>by
   simp only [keysL,List.append_eq_nil_iff] at h
   simp [renL,ren_pure ρ x h.1,renL_pure ρ xs h.2]
end
end Go.Proofs.YtdhcgankmhpgeaaGreat.M
namespace Go.Proofs.YtdhcgankmhpgeaaGreat.M
open Go Go.RowKit
structure Keep6 extends Keep where
 live:Nat→List Nat
def pickF(fr:Fr):List Nat→Fr
 | []=>[]
 | t::r=>match look t fr with
   | some v=>(t,v)::pickF fr r
   | none=>pickF fr r
def pickS(l:List Nat)(st:St):St:=⟨pickF st.fr l,st.hp,st.nx,st.df⟩
theorem pickF_sub{fr:Fr}:∀{l:List Nat}{t:Nat}{x:AV},look t (pickF fr l)=some x→look t fr=some x
 | [],t,x,h=>by cases h
 | s::l,t,x,h=>by
   unfold pickF at h
   split at h
   ·rename_i v hv
    rw [look_cons] at h
    split at h
    ·rename_i e
     subst e
     injection h with h
     subst h
     exact hv
    ·exact pickF_sub h
   ·exact pickF_sub h
def exec6{R:Type}(E:Env)(kn:Nat)(keep:Keep6):Code→St→(AX→St→Option R)→Option R
 | .skip,st,k=>k .normal st
 | .label _,st,k=>k .normal st
 | .region id ops draw,st,k=>match frzTs (keep.frz id) (pickS (keep.live id) st) with
   | none=>none
   | some st=>match (if draw then E.drawR st.nx ops st.fr st.hp st.df else runR E.G E.call E.nt st.nx ops (List.range ops.size) st.fr st.hp st.df) with
     | some (.ok fr hp df)=>k .normal ⟨fr,hp,st.nx+64*ops.size,df⟩
     | some (.pan fr hp df v)=>k (.pan v) ⟨fr,hp,st.nx+64*ops.size,df⟩
     | none=>none
 | .seq a b,st,k=>exec6 E kn keep a st fun e st'=>match e with
   | .normal=>exec6 E kn keep b st' k
   | e=>k e st'
 | .cond c x y,st,k=>match opv st.fr c with
   | some (.bool t)=>if t then exec6 E kn keep x st k else exec6 E kn keep y st k
   | _=>none
 | .block id c,st,k=>exec6 E kn keep c st fun e st'=>match e with
   | .exit j=>if Nat.beq j id then k .normal st' else k (.exit j) st'
   | e=>k e st'
 | .loop c,st,k=>loop2 (normSt kn (keep.keep (firstId c))) (fun st k=>exec6 E kn keep c st k) E.fuel st k
 | .exit j,st,k=>k (.exit j) st
 | .ret,st,k=>k .ret st
 | _,_,_=>none
def ccall6(C:Cfg)(keep:Keep6)(call:CallF):CallF:=fun f args objs=>match C.G.fn f with
 | none=>none
 | some F=>match F.body with
   | none=>none
   | some c=>match C.G.pu f with
     | some p=>if objs.isEmpty then (p args).map (·,[]) else none
     | none =>
       if args.length≤F.ntmps then
        exec6 ⟨C.G,call,F.ntmps,C.fuel,C.drawR call F.ntmps⟩ objs.length keep c ⟨numbered 0 args,numbered 0 objs,objs.length,[]⟩ (fun e st=>match frzEnd keep.toKeep e (pickS (keep.live 99999) st) with
         | none=>none
         | some st=>finish C.G C.catchF C.errT F objs.length e st)
       else none
section
variable {G : Gl} {P : Program} {c : Ctx} {w w' : World} {I I' : Nat → Prop} {pl pl' : Plan} {hp : Hp} {R : Type}
theorem pick_ok{nt:Nat}{a:Act}{st:St}{l:List Nat}(hs:SS c nt st a w I pl):SS c nt (pickS l st) a w I pl :=
 ⟨⟨hs.sr.hr,fun t x hx=>hs.sr.fr t x (pickF_sub hx),hs.sr.sz,hs.sr.stp,hs.sr.win,hs.sr.df⟩,hs.free,hs.low⟩
theorem pick_at{nt:Nat}{k:AX→St→Option R}{l:List Nat}{r:R}{e:Exit}{a:Act}{w:World}(h:At c nt (fun e st=>k e (pickS l st)) r e a w):At c nt k r e a w:=by
 obtain⟨ae,st,I,pl,h1,h2,h3⟩:=h
 exact⟨ae,pickS l st,I,pl,h1,pick_ok h2,h3⟩
theorem loop6_ok{E:Env}{kn:Nat}{keep:Keep6}{kp:Option (List Nat)}(hkn:kn=c.k)(hcp:∀ b,c.k≤b→c.pl b=none){body:Code}(hb:∀ (st:St) (k:AX→St→Option R) (r:R) (a:Act) (w:World) I pl,exec6 E kn keep body st k=some r→SS c E.nt st a w I pl→body.wp P (At c E.nt k r) a w) :
  ∀(n:Nat)(st:St)(k:AX→St→Option R)(r:R)(a:Act)(w:World) I pl,loop2 (normSt kn kp) (fun st k=>exec6 E kn keep body st k) n st k=some r→SS c E.nt st a w I pl→Code.rounds P body (At c E.nt k r) n a w
 | 0,st,k,r,a,w,I,pl,h,_=>by cases h
 | n+1,st,k,r,a,w,I,pl,h,hs=>by
   unfold loop2 at h
   unfold Code.rounds
   cases hn:normSt kn kp st with
   | none=>simp [hn] at h
   | some st0 =>
   rw [hn] at h
   simp only at h
   obtain⟨I0,pl0,hs0⟩:=norm_ok hkn hcp hn hs
   refine wp_mono (hb st0 _ r a w I0 pl0 h hs0) ?_
   rintro e a' w' ⟨ae,st',I',pl',h1,h2,h3⟩
   cases ae with
   | normal =>
     simp only [AXOK] at h1
     subst h1
     exact loop6_ok hkn hcp hb n st' k r a' w' I' pl' h3 h2
   | exit id =>
     simp only [AXOK] at h1
     subst h1
     exact⟨.exit id,st',I',pl',rfl,h2,h3⟩
   | ret =>
     simp only [AXOK] at h1
     subst h1
     exact⟨.ret,st',I',pl',rfl,h2,h3⟩
   | pan v =>
     obtain⟨u,rfl,hu⟩:=h1
     exact⟨.pan v,st',I',pl',⟨u,rfl,hu⟩,h2,h3⟩
theorem exec6_ok{E:Env}{kn:Nat}{keep:Keep6}(hkn:kn=c.k)(hcp:∀ b,c.k≤b→c.pl b=none)(hG:GOK E.G P)(hc:FnOK P E.call)(hd:DrawSound P E.nt E.drawR):∀(code:Code)(st:St)(k:AX→St→Option R)(r:R)(a:Act)(w:World) I pl,exec6 E kn keep code st k=some r→SS c E.nt st a w I pl→code.wp P (At c E.nt k r) a w
 | .skip,st,k,r,a,w,I,pl,h,hs=>wp_skip ⟨.normal,st,I,pl,rfl,hs,h⟩
 | .label l,st,k,r,a,w,I,pl,h,hs=>wp_label ⟨.normal,st,I,pl,rfl,hs,h⟩
 | .region id ops draw,st',k,r,a,w,I',pl,h,hs'=>by
   unfold exec6 at h
   cases hfz:frzTs (keep.frz id) (pickS (keep.live id) st') with
   | none=>simp [hfz] at h
   | some st =>
   rw [hfz] at h
   simp only at h
   obtain⟨I,hs⟩:=frzTs_ok hfz (pick_ok hs')
   have low:c.k≤st.nx+64*ops.size:=by have:=hs.low;omega
   cases hrr:(if draw then E.drawR st.nx ops st.fr st.hp st.df else runR E.G E.call E.nt st.nx ops (List.range ops.size) st.fr st.hp st.df) with
   | none=>simp [hrr] at h
   | some rr =>
     have h':rr.go k (st.nx+64*ops.size)=some r:=by
      rw [hrr] at h
      cases rr<;>exact h
     cases draw with
     | false =>
       simp only [Bool.false_eq_true,if_false] at hrr
       refine wp_mono (wp_region (runR_ok hG hc hs.low (List.range ops.size) List.nodup_range (fun i hi=>List.mem_range.1 hi) hs.sr (fun i hi b hb1 hb2=>hs.free b (by omega)) (fun b hb=>hs.free b (by omega)) hrr)) ?_
       intro e a' w' ho
       exact At.reg (nx:=st.nx) low h' ho
     | true =>
       simp only [if_true] at hrr
       refine wp_mono (hd c st.nx ops st.fr st.hp st.df rr hrr id a w I pl hs.sr hs.free hs.low) ?_
       intro e a' w' ho
       exact At.reg (nx:=st.nx) low h' ho
 | .seq x y,st,k,r,a,w,I,pl,h,hs=>by
   unfold exec6 at h
   refine wp_seq (wp_mono (exec6_ok hkn hcp hG hc hd x st _ r a w I pl h hs) ?_)
   rintro e a' w' ⟨ae,st',I',pl',h1,h2,h3⟩
   cases ae with
   | normal =>
     simp only [AXOK] at h1
     subst h1
     exact exec6_ok hkn hcp hG hc hd y st' k r a' w' I' pl' h3 h2
   | exit id =>
     simp only [AXOK] at h1
     subst h1
     exact⟨.exit id,st',I',pl',rfl,h2,h3⟩
   | ret =>
     simp only [AXOK] at h1
     subst h1
     exact⟨.ret,st',I',pl',rfl,h2,h3⟩
   | pan v =>
     obtain⟨u,rfl,hu⟩:=h1
     exact⟨.pan v,st',I',pl',⟨u,rfl,hu⟩,h2,h3⟩
 | .cond o x y,st,k,r,a,w,I,pl,h,hs=>by
   unfold exec6 at h
   split at h
   ·rename_i t ht
    have hv:=hs.sr.ev _ _ ht
    simp only [Rep] at hv
    cases t with
    | true=>exact wp_cond (t:=true) hv (exec6_ok hkn hcp hG hc hd x st k r a w I pl (by simpa using h) hs)
    | false=>exact wp_cond (t:=false) hv (exec6_ok hkn hcp hG hc hd y st k r a w I pl (by simpa using h) hs)
   ·cases h
 | .block id b,st,k,r,a,w,I,pl,h,hs=>by
   unfold exec6 at h
   refine wp_block (wp_mono (exec6_ok hkn hcp hG hc hd b st _ r a w I pl h hs) ?_)
   rintro e a' w' ⟨ae,st',I',pl',h1,h2,h3⟩
   cases ae with
   | normal =>
     simp only [AXOK] at h1
     subst h1
     exact⟨.normal,st',I',pl',rfl,h2,h3⟩
   | exit j =>
     simp only [AXOK] at h1
     subst h1
     simp only at h3
     split at h3
     ·rename_i hj
      have hj':=Nat.eq_of_beq_eq_true hj
      subst hj'
      simp only [Exit.inBlock,if_true]
      exact⟨.normal,st',I',pl',rfl,h2,h3⟩
     ·rename_i hj
      have hj':j≠id:=fun e=>hj (by rw [e];simp)
      simp only [Exit.inBlock,if_neg hj']
      exact⟨.exit j,st',I',pl',rfl,h2,h3⟩
   | ret =>
     simp only [AXOK] at h1
     subst h1
     exact⟨.ret,st',I',pl',rfl,h2,h3⟩
   | pan v =>
     obtain⟨u,rfl,hu⟩:=h1
     exact⟨.pan v,st',I',pl',⟨u,rfl,hu⟩,h2,h3⟩
 | .loop b,st,k,r,a,w,I,pl,h,hs=>by
   unfold exec6 at h
   exact wp_loop_rounds E.fuel (loop6_ok hkn hcp (kp:=keep.keep (firstId b)) (fun st k r a w I pl h hs=>exec6_ok hkn hcp hG hc hd b st k r a w I pl h hs) E.fuel st k r a w I pl h hs)
 | .exit j,st,k,r,a,w,I,pl,h,hs=>wp_exit ⟨.exit j,st,I,pl,rfl,hs,h⟩
 | .ret,st,k,r,a,w,I,pl,h,hs=>wp_ret ⟨.ret,st,I,pl,rfl,hs,h⟩
 | .rangeFunc ..,st,k,r,a,w,I,pl,h,hs=>by cases h
 | .scope ..,st,k,r,a,w,I,pl,h,hs=>by cases h
 | .goto ..,st,k,r,a,w,I,pl,h,hs=>by cases h
 | .refuse ..,st,k,r,a,w,I,pl,h,hs=>by cases h
theorem ccall6_ok{C:Cfg}{keep:Keep6}(hC:CfgOK C P){call:CallF}(hc:FnOK P call):FnOK P (ccall6 C keep call):=by
  intro f args objs r objs' h
  unfold ccall6 at h
  split at h
  ·cases h
  rename_i F hF
  obtain⟨hf,hname⟩:=hC.G.fn f F hF
  split at h
  ·cases h
  rename_i code hb
  refine⟨⟨F,hf,by rw [hb];rfl,hname⟩,?_⟩
  intro w I pl vs hr hpl ha
  split at h
  ·rename_i p hp
   split at h
   ·rename_i he
    have he':objs=[]:=by simpa using he
    subst he'
    cases hpa:p args with
    | none=>simp [hpa] at h
    | some r2 =>
      simp [hpa] at h
      obtain⟨rfl,rfl⟩:=h
      refine(hC.pu f p hp args r2 hpa w I pl vs (by simpa [numbered] using hr) (fun b=>hpl b (Nat.zero_le _)) ha).mono ?_
      rintro e w' ⟨I',pl',k1,k2,k3⟩
      exact⟨I',pl',by simpa [numbered] using k1,by simpa [numbered] using k2,k3,fun b hb=>by simp at hb⟩
   ·cases h
  ·split at h
   ·rename_i hlen
    let c:Ctx:=⟨w,I,pl,numbered 0 objs,objs.length⟩
    have hvl:=repL_length ha
    have hsr:SR c F.ntmps (numbered 0 args) (numbered 0 objs) [] { tmps:=vs.toArray++Array.replicate (F.ntmps-vs.toArray.size) undef,defers:=[] } w I pl:=by
     refine⟨hr,?_,?_,Stp.refl _ _ _ _,fun _ _=>rfl,by simp [DfOK]⟩
     ·intro t x hx
      rw [look_num] at hx
      obtain⟨v,h1,h2⟩:=repL_get ha hx
      refine⟨v,?_,h2⟩
      have hlt:t<vs.length:=(List.getElem?_eq_some_iff.1 h1).1
      rw [Array.getElem?_append_left (by simpa using hlt)]
      simpa using h1
     ·simp
      omega
    have hss:SS c F.ntmps ⟨numbered 0 args,numbered 0 objs,objs.length,[]⟩ { tmps:=vs.toArray++Array.replicate (F.ntmps-vs.toArray.size) undef,defers:=[] } w I pl:=by
     refine⟨hsr,fun b hb=>⟨hpl b hb,?_⟩,Nat.le_refl _⟩
     rw [look_num]
     exact List.getElem?_eq_none hb
    have hx:=exec6_ok (c:=c) (kn:=objs.length) (keep:=keep) rfl hpl (E:=⟨C.G,call,F.ntmps,C.fuel,C.drawR (call) F.ntmps⟩) hC.G (hc) (hC.draw _ (hc) _) code _ _ _ _ _ I pl h hss
    have hcalls:=calls_of_wp_defers hf hb (R:=fun e w'=>Post c r objs' e w') (wp_mono hx (fun e a w' hat=>finish_ok hC.G hC.cat (c:=c) hpl (frzEnd_at (pick_at hat))))
    refine hcalls.mono ?_
    rintro e w' ⟨I',pl',k1,k2,k3,k4⟩
    exact⟨I',pl',k1,k2,k3,k4⟩
   ·cases h
end
def nilC:Option Nat→AV→AV
 | some sz,.nils => .sl sz []
 | _,x=>x
def canCs:List (Option Nat)→List AV→List AV
 | s::ss,x::xs=>nilC s x::canCs ss xs
 | _,xs=>xs
def canV:List (Option Nat)→AV→AV
 | ss,.agg cs => .agg (canCs ss cs)
 | s::_,x=>nilC s x
 | [],x=>x
def canVs:List (List (Option Nat))→List AV→List AV
 | s::ss,x::xs=>canV s x::canVs ss xs
 | _,xs=>xs
def canR:List (List (Option Nat))→AV→AV
 | [s],x=>canV s x
 | ss,.tup l => .tup (canVs ss l)
 | _,x=>x
def canE(ss:List (List (Option Nat)))(q:AE×List Obj'):AE×List Obj':=match q with
 | (.ret r,o)=>(.ret (canR ss r),o)
 | q=>q
section
variable {w : World} {I : Nat → Prop} {pl : Plan}
theorem rep_nilC{s:Option Nat}{x:AV}{v:Value}(h:Rep w I pl x v):Rep w I pl (nilC s x) v:=by
 unfold nilC
 split
 ·simp only [Rep] at h
  subst h
  simp only [Rep]
  exact⟨none,0,0,rfl,rfl,Nat.le_refl _,Nat.zero_le _,.inl trivial⟩
 ·exact h
theorem repL_canCs:∀{ss:List (Option Nat)}{xs:List AV}{vs:List Value},RepL w I pl xs vs→RepL w I pl (canCs ss xs) vs
 | [],xs,vs,h=>by unfold canCs;exact h
 | _::_,[],vs,h=>by unfold canCs;exact h
 | s::ss,x::xs,vs,h=>by
   simp only [RepL] at h
   obtain⟨v,vs',rfl,h1,h2⟩:=h
   unfold canCs
   simp only [RepL]
   exact⟨v,vs',rfl,rep_nilC h1,repL_canCs h2⟩
theorem rep_canV{ss:List (Option Nat)}{x:AV}{v:Value}(h:Rep w I pl x v):Rep w I pl (canV ss x) v:=by
 unfold canV
 split
 ·simp only [Rep] at h ⊢
  obtain⟨vs,h1,h2,h3⟩:=h
  exact⟨vs,h1,h2,repL_canCs h3⟩
 ·exact rep_nilC h
 ·exact h
theorem repL_canVs:∀{ss:List (List (Option Nat))}{xs:List AV}{vs:List Value},RepL w I pl xs vs→RepL w I pl (canVs ss xs) vs
 | [],xs,vs,h=>by unfold canVs;exact h
 | _::_,[],vs,h=>by unfold canVs;exact h
 | s::ss,x::xs,vs,h=>by
   simp only [RepL] at h
   obtain⟨v,vs',rfl,h1,h2⟩:=h
   unfold canVs
   simp only [RepL]
   exact⟨v,vs',rfl,rep_canV h1,repL_canVs h2⟩
theorem rep_canR{ss:List (List (Option Nat))}{x:AV}{v:Value}(h:Rep w I pl x v):Rep w I pl (canR ss x) v:=by
 unfold canR
 split
 ·exact rep_canV h
 ·simp only [Rep] at h ⊢
  obtain⟨vs,h1,h3⟩:=h
  exact⟨vs,h1,repL_canVs h3⟩
 ·exact h
end
theorem nilC_nilC{s:Option Nat}{x:AV}:nilC s (nilC s x)=nilC s x:=by
 cases s with
 | none=>rfl
 | some n=>cases x<;>rfl
theorem canCs_canCs:∀{ss:List (Option Nat)}{xs:List AV},canCs ss (canCs ss xs)=canCs ss xs
 | [],xs=>by simp only [canCs]
 | _::_,[]=>rfl
 | s::ss,x::xs=>by simp only [canCs,nilC_nilC,canCs_canCs]
theorem canV_canV{ss:List (Option Nat)}{x:AV}:canV ss (canV ss x)=canV ss x:=by
 cases ss with
 | nil=>cases x<;>simp only [canV,canCs]
 | cons s ss =>
   cases s with
   | none=>cases x<;>first|rfl|simp only [canV,canCs_canCs]
   | some n=>cases x<;>first|rfl|simp only [canV,canCs_canCs]
theorem canVs_canVs:∀{ss:List (List (Option Nat))}{xs:List AV},canVs ss (canVs ss xs)=canVs ss xs
 | [],xs=>by simp only [canVs]
 | _::_,[]=>rfl
 | s::ss,x::xs=>by simp only [canVs,canV_canV,canVs_canVs]
theorem canVs_length:∀{ss:List (List (Option Nat))}{xs:List AV},(canVs ss xs).length=xs.length
 | [],xs=>by simp only [canVs]
 | _::_,[]=>rfl
 | s::ss,x::xs=>by simp only [canVs,List.length_cons,canVs_length]
theorem can_ok{P:Program}{call:CallF}{ash rsh:Nat→List (List (Option Nat))}(h:FnOK P call):FnOK P fun f args objs=>(call f (canVs (ash f) args) objs).map (canE (rsh f)):=by
 intro f args objs r objs' hr
 simp only [Option.map_eq_some_iff] at hr
 obtain⟨⟨r0,o0⟩,h1,h2⟩:=hr
 have h0:=h f _ objs r0 o0 h1
 have ho:o0=objs':=by
  cases r0<;>(simp only [canE,Prod.mk.injEq] at h2;exact h2.2)
 subst ho
 refine⟨h0.1,fun w I pl vs k1 k2 k3=>?_⟩
 refine(h0.2 w I pl vs k1 k2 (repL_canVs k3)).mono ?_
 rintro e w' ⟨I',pl',q1,q2,q3,q4⟩
 refine⟨I',pl',q1,q2,?_,q4⟩
 cases r0 with
 | ret x =>
   simp only [canE,Prod.mk.injEq,and_true] at h2
   subst h2
   obtain⟨u,rfl,hu⟩:=q3
   exact⟨u,rfl,rep_canR hu⟩
 | pan x =>
   simp only [canE,Prod.mk.injEq,and_true] at h2
   subst h2
   exact q3
end Go.Proofs.YtdhcgankmhpgeaaGreat.M
