import Derived.Test.YtdhcgankmhpgeaaGreatB08
import Derived.Test.YtdhcgankmhpgeaaGreatB06
set_option linter.all false
namespace Go.Proofs.YtdhcgankmhpgeaaGreat.M
open Go
section
variable {R : Type} {ops : Array Oper} {base nt : Nat} {fr : Fr} {hp : Hp} {df : Df}
theorem copyD_up2{base T:Nat}{s x v:AV}{up:Hp}(h:copyD cfg.G hp T s x=some (v,up)):upOK base hp up=true:=by
 unfold copyD at h
 split at h
 ·split at h
  ·rename_i hl
   split at h
   ·injection h with h
    injection h with _ h
    subst h
    exact upOK_is hl
   ·cases h
  ·cases h
 ·cases h
theorem opD_up{o:Oper}{v:AV}{up:Hp}(h:opD cfg.G base o fr hp=some (v,up)):upOK base hp up=true:=by
 cases hm:mayW o.op with
 | false =>
   rw [opD_pure hm h]
   exact upOK_nil
 | true =>
   obtain⟨dst,op,ty,pos,af,gd⟩:=o
   cases op<;>simp only [mayW,Bool.false_eq_true] at hm
   case alloc T =>
    simp only [opD,Option.map_eq_some_iff] at h
    obtain⟨u,h1,h2⟩:=h
    injection h2 with _ h2
    subst h2
    exact upOK_own
   case box T x =>
    simp only [opD,Option.map_eq_some_iff] at h
    obtain⟨u,h1,h2⟩:=h
    injection h2 with _ h2
    subst h2
    exact upOK_own
   case buildSlice T n ps =>
    simp only [opD] at h
    cases hl:partsD fr ps.toList with
    | none=>simp [hl] at h
    | some l =>
      simp only [hl,Option.bind_some,buildSliceD] at h
      split at h
      ·split at h
       ·split at h
        ·simp only [Option.map_eq_some_iff] at h
         obtain⟨u,h1,h2⟩:=h
         injection h2 with _ h2
         subst h2
         exact upOK_own
        ·cases h
       ·cases h
      ·cases h
   case store T a x =>
    simp only [opD] at h
    split at h
    ·simp only [Option.map_eq_some_iff] at h
     obtain⟨u,h1,h2⟩:=h
     injection h2 with _ h2
     subst h2
     exact storeD_up h1
    ·cases h
   case makeSlice T l c =>
    simp only [opD] at h
    split at h
    ·exact makeSliceD_up h
    ·cases h
   case makeMap T n =>
    cases n with
    | some n=>simp only [opD] at h;cases h
    | none =>
      simp only [opD] at h
      split at h
      ·injection h with h
       injection h with _ h
       subst h
       exact upOK_own
      ·cases h
   case mapUpdate T m n x =>
    simp only [opD] at h
    split at h
    ·split at h
     ·rename_i hl
      split at h
      ·cases h
      ·injection h with h
       injection h with _ h
       subst h
       exact upOK_is hl
     ·cases h
    ·cases h
   case call c =>
    obtain⟨callee,args,Ts⟩:=c
    cases callee with
    | value f=>simp only [opD] at h;cases h
    | invoke r m=>simp only [opD] at h;cases h
    | builtin b =>
      cases b<;>simp only [opD] at h<;>try (cases h;done)
      case len =>
       split at h
       ·rw [up_map2 h];exact upOK_nil
       ·cases h
      case append =>
       split at h
       ·split at h
        ·split at h
         ·exact appendD_up h
         ·cases h
        ·cases h
       ·cases h
      case copy =>
       split at h
       ·split at h
        ·exact copyD_up2 h
        ·cases h
       ·cases h
      case max =>
       split at h
       ·rw [up_map2 h];exact upOK_nil
       ·cases h
      case min =>
       split at h
       ·rw [up_map2 h];exact upOK_nil
       ·cases h
def rrS(r:Option RR)(F:Fr→Hp→Df→Option R)(P:AV→Fr→Hp→Df→Option R):Option R:=match r with
 | none=>none
 | some (.ok fr hp df)=>F fr hp df
 | some (.pan fr hp df v)=>P v fr hp df
theorem stepR_stp{o:Oper}(hl:ltO nt o.dst=true){F:Fr→Hp→Df→Option R}{P:AV→Fr→Hp→Df→Option R} :
  rrS (stepR cfg.G evW nt base ops o fr hp df) F P=stp base ops o fr hp (fun v up=>F (putO fr o.dst v) (app up hp) df) (fun v up=>P v fr (app up hp) df) (fun q=>F (putO fr o.dst (.tup [])) hp (q::df)):=by
 have hput:∀ v,putF nt fr o.dst v=some (putO fr o.dst v):=fun v=>putF_putO v hl
 unfold stepR stp
 cases wantD ops o fr with
 | none=>rfl
 | some b =>
   cases b with
   | false=>simp only [hput,Option.map_some,rrS];rfl
   | true =>
     have hop:rrS (match opD cfg.G base o fr hp with
       | some (v,up)=>if (up.all fun q=>Nat.beq q.1 base||(look q.1 hp).isSome)=true then (putF nt fr o.dst v).map fun fr=>RR.ok fr (up++hp) df else none
       | none=>none) F P=ob (opD cfg.G base o fr hp) fun q=>F (putO fr o.dst q.1) (app q.2 hp) df:=by
      cases ho:opD cfg.G base o fr hp with
      | none=>rfl
      | some q =>
        obtain⟨v,up⟩:=q
        have:=opD_up ho
        unfold upOK at this
        simp only [this,if_true,hput,Option.map_some,rrS,ob_some,app]
     obtain⟨dst,op,ty,pos,af,gd⟩:=o
     cases op<;>simp only at hop hput ⊢ <;> try exact hop
     case call c =>
      obtain⟨callee,args,Ts⟩:=c
      cases callee with
      | value f =>
        simp only
        cases opv fr f with
        | none=>rfl
        | some fv =>
          cases fv<;>try (cases argsD fr args.toList<;>rfl)
          rename_i g caps
          cases argsD fr args.toList with
          | none=>rfl
          | some l =>
            simp only [ob_some,clF]
            cases callD evW base g (l++caps) hp with
            | none=>rfl
            | some q =>
              obtain⟨ae,up⟩:=q
              cases ae with
              | ret v=>simp only [hput,Option.map_some,rrS,clK,app]
              | pan v=>rfl
      | invoke r m=>exact hop
      | builtin b=>exact hop
     case defer c =>
      obtain⟨callee,args,Ts⟩:=c
      cases callee with
      | value f =>
        simp only
        cases opv fr f with
        | none=>rfl
        | some fv =>
          cases fv<;>try (cases argsD fr args.toList<;>rfl)
          rename_i g caps
          cases argsD fr args.toList with
          | none=>rfl
          | some l=>simp only [hput,Option.map_some,rrS,ob_some,clF]
      | invoke r m=>exact hop
      | builtin b=>exact hop
     case panic x =>
      cases opv fr x with
      | none=>rfl
      | some v=>cases v<;>rfl
theorem stepD_stp{o:Oper}(hd:isDefer o.op=false){f g:AV→Hp→Option R}{h:Nat×List AV→Option R}:stp base ops o fr hp f g h=match stepD cfg.G evW base ops o fr hp with
  | none=>none
  | some (.ret v,up)=>f v up
  | some (.pan v,up)=>g v up:=by
 unfold stepD stp
 cases wantD ops o fr with
 | none=>rfl
 | some b =>
   cases b with
   | false=>rfl
   | true =>
     have hop:ob (opD cfg.G base o fr hp) (fun q=>f q.1 q.2)=match (opD cfg.G base o fr hp).map fun q=>(AE.ret q.1,q.2) with
       | none=>none
       | some (.ret v,up)=>f v up
       | some (.pan v,up)=>g v up:=by
      cases opD cfg.G base o fr hp<;>rfl
     obtain⟨dst,op,ty,pos,af,gd⟩:=o
     cases op<;>simp only at hop ⊢ <;> try exact hop
     case call c =>
      obtain⟨callee,args,Ts⟩:=c
      cases callee with
      | value f =>
        simp only
        cases opv fr f with
        | none=>rfl
        | some fv =>
          cases fv<;>try (cases argsD fr args.toList<;>rfl)
          rename_i g caps
          cases argsD fr args.toList with
          | none=>rfl
          | some l =>
            simp only [ob_some,clF]
            cases callD evW base g (l++caps) hp with
            | none=>rfl
            | some q =>
              obtain⟨ae,up⟩:=q
              cases ae<;>rfl
      | invoke r m=>exact hop
      | builtin b=>exact hop
     case defer c=>cases hd
     case panic x =>
      cases opv fr x with
      | none=>rfl
      | some v=>cases v<;>rfl
theorem stepD_pure{o:Oper}{ae:AE}{up:Hp}(hm:mayW o.op=false)(h:stepD cfg.G evW base ops o fr hp=some (ae,up)):up=[]:=by
 unfold stepD at h
 cases hw:wantD ops o fr with
 | none=>simp [hw] at h
 | some b =>
   rw [hw] at h
   cases b with
   | false =>
     simp only [Option.some.injEq,Prod.mk.injEq] at h
     exact h.2.symm
   | true =>
     have hop:(opD cfg.G base o fr hp).map (fun q=>(AE.ret q.1,q.2))=some (ae,up)→up=[]:=by
      intro h
      simp only [Option.map_eq_some_iff,Prod.mk.injEq] at h
      obtain⟨⟨v,u⟩,h1,h2,h3⟩:=h
      simp only at h3
      subst h3
      exact opD_pure hm h1
     obtain⟨dst,op,ty,pos,af,gd⟩:=o
     cases op<;>simp only at hop h<;>try exact hop h
     case call c=>simp [mayW] at hm
     case panic x =>
      cases hv:opv fr x with
      | none=>simp [hv] at h
      | some v =>
        cases v<;>simp [hv] at h
        exact h.2
end
def bitsOf:List Nat→Nat
 | []=>0
 | j::r=>bitsOf r ||| 2^j
theorem testBit_bitsOf(j:Nat):∀ l,Nat.testBit (bitsOf l) j=hasN j l
 | []=>by simp [bitsOf,hasN]
 | k::l=>by
   simp only [bitsOf,hasN,Nat.testBit_or,testBit_bitsOf j l,Nat.testBit_two_pow]
   by_cases h:j=k
   ·subst h;simp
   ·have e1:Nat.beq j k=false:=by
     cases hb:Nat.beq j k with
     | false=>rfl
     | true=>exact absurd (Nat.eq_of_beq_eq_true hb) h
    have e2:decide (k=j)=false:=by simp;exact fun e=>h e.symm
    rw [e1,e2]
    simp
abbrev Tab:=List (List Nat×List Nat)
def apartS(r q:Rec):Bool:=neO r.dst q.dst && !hasO r.lk q.dst && !hasO q.lk r.dst
def apartK(r q:Rec):Bool:=q.up.all (fun k => !hasN k.1 r.rk && !hasK k.1 r.up)&&r.up.all (fun k => !hasN k.1 q.rk)
def apU(u1 u2:Hp)(r1 r2:List Nat):Bool:=u2.all (fun k => !hasN k.1 r1 && !hasK k.1 u1)&&u1.all (fun k => !hasN k.1 r2)
theorem apart_eq(r q:Rec):apart r q=(apartS r q&&apartK r q):=by
 unfold apart apartS apartK
 simp only [Bool.and_assoc]
def findR(j:Nat):List Rec→Option Rec
 | []=>none
 | r::D=>if Nat.beq j r.i then some r else findR j D
def apJ(r:Rec):Option Rec→Bool
 | some q=>apartK r q
 | none=>true
def apL(r:Rec)(D:List Rec):List Nat→Bool
 | []=>true
 | j::c=>apJ r (findR j D)&&apL r D c
def keysL2(nx i:Nat)(pre:List Nat):Hp→Bool
 | []=>true
 | q::r=>(Nat.blt q.1 nx||Nat.beq ((q.1-nx) / 64) i||hasN ((q.1-nx) / 64) pre)&&keysL2 nx i pre r
theorem keysL2_eq{nx i:Nat}{pre:List Nat}:∀ up,keysL2 nx i pre up=keysOK nx i (bitsOf pre) up
 | []=>rfl
 | q::r=>by simp only [keysL2,keysOK,testBit_bitsOf,keysL2_eq r]
def mayAt(ops:Array Oper)(j:Nat):Bool:=match ops[j]? with
 | some o=>mayW o.op
 | none=>true
def statAp(ops:Array Oper)(m:Bool)(r:Rec)(pre chk:List Nat):List Rec→Bool
 | []=>true
 | q::D=>(hasN q.i pre||(apartS r q&&(hasN q.i chk||(!m && !mayAt ops q.i))))&&statAp ops m r pre chk D
def statT(nt:Nat)(ops:Array Oper):List Oper→Nat→Tab→List Rec→Bool
 | [],_,[],_=>true
 | o::rest,i,(pre,chk)::tab,D=>(match preOf D o.after.toList with
   | some p=>Nat.beq p (bitsOf pre)
   | none=>false)&&ltO nt o.dst && !isDefer o.op&&chk.all (fun j => !hasN j pre)&&statAp ops (mayW o.op) ⟨i,bitsOf pre,o.dst,.undef,[],o.looksAt ops,[]⟩ pre chk D
   && statT nt ops rest (i+1) tab (⟨i,bitsOf pre,o.dst,.undef,[],o.looksAt ops,[]⟩::D)
 | _,_,_,_=>false
structure Fits(ops:Array Oper)(q q':Rec):Prop where
 i:q.i=q'.i
 pre:q.pre=q'.pre
 dst:q.dst=q'.dst∨q.dst=none
 lk:q.lk=q'.lk∨q.lk=[]
 pure:mayAt ops q.i=false→q.up=[]
inductive FitL(ops:Array Oper):Nat→List Rec→List Rec→Prop
 | nil:FitL ops 0 [] []
 | cons {i:Nat} {q q':Rec} {D D':List Rec}:q.i=i→Fits ops q q'→FitL ops i D D'→FitL ops (i+1) (q::D) (q'::D')
theorem FitL.lt{ops:Array Oper}:∀{i:Nat}{D D':List Rec},FitL ops i D D'→∀ q∈D,q.i<i
 | _,_,_,.nil,q,h=>by cases h
 | _,_,_,.cons h1 h2 h3,q,h=>by
   rcases List.mem_cons.1 h with rfl|h
   ·omega
   ·have:=h3.lt q h;omega
theorem FitL.find{ops:Array Oper}{j:Nat}:∀{i:Nat}{D D':List Rec},FitL ops i D D'→findP j D=findP j D'
 | _,_,_,.nil=>rfl
 | _,_,_,.cons h1 h2 h3=>by simp only [findP,h2.i,h2.pre,h3.find]
theorem FitL.preOf{ops:Array Oper}{i:Nat}{D D':List Rec}(h:FitL ops i D D'):∀ es,M.preOf D es=M.preOf D' es
 | []=>rfl
 | e::es=>by simp only [M.preOf,h.preOf es,h.find]
theorem findR_some{j:Nat}:∀{D:List Rec}{q:Rec},findR j D=some q→q∈D∧q.i=j
 | [],q,h=>by cases h
 | r::D,q,h=>by
   unfold findR at h
   split at h
   ·rename_i e
    injection h with h
    subst h
    exact⟨by simp,(Nat.eq_of_beq_eq_true e).symm⟩
   ·obtain⟨h1,h2⟩:=findR_some h
    exact⟨by simp [h1],h2⟩
theorem FitL.findR{ops:Array Oper}:∀{i:Nat}{D D':List Rec},FitL ops i D D'→∀ q∈D,findR q.i D=some q
 | _,_,_,.nil,q,h=>by cases h
 | _,_,_,.cons (q:=r) h1 h2 h3,q,h=>by
   unfold M.findR
   rcases List.mem_cons.1 h with rfl|h
   ·rw [if_pos (by simp)]
   ·have:=h3.lt q h
    rw [if_neg (by intro e;have:=Nat.eq_of_beq_eq_true e;omega)]
    exact h3.findR q h
theorem apL_all{r:Rec}{D:List Rec}:∀{c:List Nat},apL r D c=true↔∀ j∈c,apJ r (findR j D)=true
 | []=>by simp [apL]
 | j::c=>by simp [apL,apL_all (c:=c)]
theorem apartAll_all{r:Rec}:∀{D:List Rec},apartAll r D=true↔∀ q∈D,Nat.testBit r.pre q.i=true∨apart r q=true
 | []=>by simp [apartAll]
 | q::D=>by simp [apartAll,apartAll_all (D:=D)]
theorem hasN_mem{b:Nat}:∀{l:List Nat},hasN b l=true↔b∈l
 | []=>by simp [hasN]
 | c::l=>by
   simp only [hasN,Bool.or_eq_true,hasN_mem (l:=l),List.mem_cons]
   constructor
   ·rintro(h|h)
    ·exact .inl (Nat.eq_of_beq_eq_true h)
    ·exact .inr h
   ·rintro(h|h)
    ·exact .inl (by rw [h];simp)
    ·exact .inr h
theorem hasO_nil(d:Option Nat):hasO [] d=false:=by cases d<;>rfl
theorem neO_none(d:Option Nat):neO d none=true:=by cases d<;>rfl
theorem apartS_fits{ops:Array Oper}{r r' q q':Rec}(h:Fits ops q q')(hd:r.dst=r'.dst∨r.dst=none)(hl:r.lk=r'.lk)(hs:apartS r' q'=true):apartS r q=true:=by
 unfold apartS at hs ⊢
 simp only [Bool.and_eq_true,Bool.not_eq_true'] at hs ⊢
 obtain⟨⟨h1,h2⟩,h3⟩:=hs
 have hn:∀ d:Option Nat,neO none d=true:=fun d=>by cases d<;>rfl
 have ho:∀ l:List Nat,hasO l none=false:=fun l=>rfl
 refine⟨⟨?_,?_⟩,?_⟩
 ·rcases hd with hd|hd<;>rcases h.dst with e|e<;>rw [hd,e]<;>first|exact h1|exact neO_none _|exact hn _
 ·rw [hl]
  rcases h.dst with e|e<;>rw [e]
  ·exact h2
  ·exact ho _
 ·rcases h.lk with e|e
  ·rw [e]
   rcases hd with hd|hd<;>rw [hd]
   ·exact h3
   ·exact ho _
  ·rw [e]
   exact hasO_nil _
theorem check_eq{ops:Array Oper}{i:Nat}{D D':List Rec}(hf:FitL ops i D D'){r r':Rec}{m:Bool}{pre chk:List Nat}(hp:r.pre=bitsOf pre)(hd:r.dst=r'.dst∨r.dst=none)(hl:r.lk=r'.lk)(hu:m=false→r.up=[])
  (hc:chk.all (fun j => !hasN j pre)=true) (hs:statAp ops m r' pre chk D'=true):apartAll r D=apL r D chk:=by
 have hst:∀ q∈D,hasN q.i pre=true∨(apartS r q=true∧(hasN q.i chk=true∨(m=false∧mayAt ops q.i=false))):=by
  clear hp hu hc
  induction hf with
  | nil=>intro q hq;cases hq
  | cons h1 h2 h3 ih =>
    simp only [statAp,Bool.and_eq_true,Bool.or_eq_true,Bool.not_eq_true'] at hs
    intro q hq
    rcases List.mem_cons.1 hq with rfl|hq
    ·rw [h2.i]
     rcases hs.1 with h|⟨h,k⟩
     ·exact .inl h
     ·exact .inr ⟨apartS_fits h2 hd hl h,k⟩
    ·exact ih hs.2 q hq
 have hall:∀ q∈D,Fits ops q q→True:=fun _ _ _=>trivial
 have hpure:∀ q∈D,mayAt ops q.i=false→q.up=[]:=by
  clear hs hst hp hu hc
  induction hf with
  | nil=>intro q hq;cases hq
  | cons h1 h2 h3 ih =>
    intro q hq
    rcases List.mem_cons.1 hq with rfl|hq
    ·exact h2.pure
    ·exact ih (fun _ _ _=>trivial) q hq
 rw [Bool.eq_iff_iff,apartAll_all,apL_all]
 constructor
 ·intro h j hj
  unfold apJ
  split
  ·rename_i q hq
   obtain⟨h1,h2⟩:=findR_some hq
   rcases h q h1 with k|k
   ·rw [hp,testBit_bitsOf,h2] at k
    have:=List.all_eq_true.1 hc j hj
    rw [k] at this
    cases this
   ·rw [apart_eq,Bool.and_eq_true] at k
    exact k.2
  ·rfl
 ·intro h q hq
  rcases hst q hq with k|⟨k1,k2⟩
  ·exact .inl (by rw [hp,testBit_bitsOf];exact k)
  ·right
   rw [apart_eq,Bool.and_eq_true]
   refine⟨k1,?_⟩
   rcases k2 with k2|⟨k2,k3⟩
   ·have:=h q.i (hasN_mem.1 k2)
    rw [hf.findR q hq] at this
    exact this
   ·unfold apartK
    rw [hu k2,hpure q hq k3]
    rfl
section
variable {G : Gl} {call : CallF} {nt nx : Nat} {ops : Array Oper}
def deadL(pan:Option (Nat×List Nat×Hp×AV))(pre:List Nat):Bool:=match pan with
 | none=>false
 | some p=>hasN p.1 pre
structure DT where
 D:List Rec
 fr:Fr
 hp:Hp
 pan:Option (Nat×List Nat×Hp×AV)
noncomputable def dGo(nx:Nat)(ops:Array Oper):List Oper→Nat→Tab→DT→Option DT
 | [],_,[],s=>some s
 | o::rest,i,(pre,chk)::tab,s =>
   if deadL s.pan pre then dGo nx ops rest (i+1) tab { s with D:=⟨i,bitsOf pre,none,.undef,[],[],[]⟩::s.D }
   else match stepD cfg.G evW (nx+64*i) ops o s.fr s.hp with
    | none=>none
    | some (.ret v,up) =>
      if keysL2 nx i pre up&&apL ⟨i,bitsOf pre,o.dst,v,up,o.looksAt ops,rkD o s.fr s.hp⟩ s.D chk then dGo nx ops rest (i+1) tab { s with D:=⟨i,bitsOf pre,o.dst,v,up,o.looksAt ops,rkD o s.fr s.hp⟩::s.D,fr:=putO s.fr o.dst v,hp:=up++s.hp }
      else none
    | some (.pan v,up) =>
      if s.pan.isNone&&keysL2 nx i pre up&&apL ⟨i,bitsOf pre,none,.undef,[],o.looksAt ops,rkD o s.fr s.hp⟩ s.D chk then dGo nx ops rest (i+1) tab { s with D:=⟨i,bitsOf pre,none,.undef,[],o.looksAt ops,rkD o s.fr s.hp⟩::s.D,pan:=some (i,pre,up,v) }
      else none
 | _,_,_,_=>none
def DT.ds(s:DT):DS:=⟨s.D,s.fr,s.hp,s.pan.map fun p=>(p.1,bitsOf p.2.1,p.2.2.1,p.2.2.2)⟩
theorem dead_eq(s:DT)(pre:List Nat):s.ds.dead (bitsOf pre)=deadL s.pan pre:=by
 obtain⟨D,fr,hp,pan⟩:=s
 cases pan with
 | none=>rfl
 | some p=>simp only [DT.ds,Option.map_some,DS.dead,deadL,testBit_bitsOf]
theorem dGo_eq:∀(rest:List Oper)(i:Nat)(tab:Tab)(D':List Rec)(s:DT),ops.toList.drop i=rest→statT nt ops rest i tab D'=true→FitL ops i s.D D' →
  drawGo cfg.G evW nt nx ops (List.range' i rest.length) s.ds=(dGo nx ops rest i tab s).map DT.ds
 | [],i,[],D',s,_,_,_=>rfl
 | [],i,_::_,D',s,_,h,_=>by cases h
 | o::rest,i,[],D',s,_,h,_=>by cases h
 | o::rest,i,(pre,chk)::tab,D',s,hd,h,hf=>by
   have ho:ops[i]?=some o:=by
    have:=congrArg (·[0]?) hd
    simpa using this
   have hd2:ops.toList.drop (i+1)=rest:=by
    rw [← List.drop_drop,hd]
    rfl
   simp only [statT,Bool.and_eq_true,Bool.not_eq_true'] at h
   obtain⟨⟨⟨⟨⟨h1,h2⟩,h3⟩,h4⟩,h5⟩,h6⟩:=h
   have hpre:preOf s.ds.D o.after.toList=some (bitsOf pre):=by
    have e:preOf s.D o.after.toList=preOf D' o.after.toList:=hf.preOf _
    show preOf s.D o.after.toList=_
    rw [e]
    cases hq:preOf D' o.after.toList with
    | none=>rw [hq] at h1;cases h1
    | some p=>rw [hq] at h1;exact congrArg some (Nat.eq_of_beq_eq_true h1)
   have hmay:mayAt ops i=mayW o.op:=by simp only [mayAt,ho]
   simp only [List.length_cons,List.range'_succ]
   unfold drawGo dGo
   simp only [ho,hpre,dead_eq]
   cases hdd:deadL s.pan pre with
   | true =>
     simp only [if_true]
     exact dGo_eq rest (i+1) tab _ { s with D:=⟨i,bitsOf pre,none,.undef,[],[],[]⟩::s.D } hd2 h6 (.cons rfl ⟨rfl,rfl,.inr rfl,.inr rfl,fun _=>rfl⟩ hf)
   | false =>
     simp only [Bool.false_eq_true,if_false]
     cases hs:stepD cfg.G evW (nx+64*i) ops o s.fr s.hp with
     | none =>
       have:stepD cfg.G evW (nx+64*i) ops o s.ds.fr s.ds.hp=none:=hs
       rw [this]
       rfl
     | some q =>
       obtain⟨ae,up⟩:=q
       have hs':stepD cfg.G evW (nx+64*i) ops o s.ds.fr s.ds.hp=some (ae,up):=hs
       rw [hs']
       have hup:mayW o.op=false→up=[]:=fun hm=>stepD_pure hm hs
       cases ae with
       | ret v =>
         have hc:(ltO nt o.dst&&keysOK nx i (bitsOf pre) up&&apartAll ⟨i,bitsOf pre,o.dst,v,up,o.looksAt ops,rkD o s.fr s.hp⟩ s.D)=(keysL2 nx i pre up&&apL ⟨i,bitsOf pre,o.dst,v,up,o.looksAt ops,rkD o s.fr s.hp⟩ s.D chk):=by
          rw [h2,keysL2_eq,Bool.true_and]
          congr 1
          exact check_eq hf (r':=⟨i,bitsOf pre,o.dst,.undef,[],o.looksAt ops,[]⟩) rfl (.inl rfl) rfl hup h4 h5
         simp only
         have hc':(ltO nt o.dst&&keysOK nx i (bitsOf pre) up&&apartAll ⟨i,bitsOf pre,o.dst,v,up,o.looksAt ops,rkD o s.ds.fr s.ds.hp⟩ s.ds.D)=(keysL2 nx i pre up&&apL ⟨i,bitsOf pre,o.dst,v,up,o.looksAt ops,rkD o s.fr s.hp⟩ s.D chk):=hc
         rw [hc']
         cases (keysL2 nx i pre up&&apL ⟨i,bitsOf pre,o.dst,v,up,o.looksAt ops,rkD o s.fr s.hp⟩ s.D chk) with
         | true =>
           simp only [if_true]
           exact dGo_eq rest (i+1) tab _ ⟨⟨i,bitsOf pre,o.dst,v,up,o.looksAt ops,rkD o s.fr s.hp⟩::s.D,putO s.fr o.dst v,up++s.hp,s.pan⟩ hd2 h6 (.cons rfl ⟨rfl,rfl,.inl rfl,.inl rfl,fun hm=>hup (by rw [← hmay];exact hm)⟩ hf)
         | false=>rfl
       | pan v =>
         have hc:(keysOK nx i (bitsOf pre) up&&apartAll ⟨i,bitsOf pre,none,.undef,[],o.looksAt ops,rkD o s.fr s.hp⟩ s.D)=(keysL2 nx i pre up&&apL ⟨i,bitsOf pre,none,.undef,[],o.looksAt ops,rkD o s.fr s.hp⟩ s.D chk):=by
          rw [keysL2_eq]
          congr 1
          exact check_eq hf (r':=⟨i,bitsOf pre,o.dst,.undef,[],o.looksAt ops,[]⟩) rfl (.inr rfl) rfl (fun _=>rfl) h4 h5
         have hn:s.ds.pan.isNone=s.pan.isNone:=by
          obtain⟨D,fr,hp,pan⟩:=s
          cases pan<;>rfl
         simp only [hn,Bool.and_assoc]
         have hc':(keysOK nx i (bitsOf pre) up&&apartAll ⟨i,bitsOf pre,none,.undef,[],o.looksAt ops,rkD o s.ds.fr s.ds.hp⟩ s.ds.D)=(keysL2 nx i pre up&&apL ⟨i,bitsOf pre,none,.undef,[],o.looksAt ops,rkD o s.fr s.hp⟩ s.D chk):=hc
         rw [hc']
         cases (s.pan.isNone&&(keysL2 nx i pre up&&apL ⟨i,bitsOf pre,none,.undef,[],o.looksAt ops,rkD o s.fr s.hp⟩ s.D chk)) with
         | true =>
           simp only [if_true]
           exact dGo_eq rest (i+1) tab _ ⟨⟨i,bitsOf pre,none,.undef,[],o.looksAt ops,rkD o s.fr s.hp⟩::s.D,s.fr,s.hp,some (i,pre,up,v)⟩ hd2 h6 (.cons rfl ⟨rfl,rfl,.inr rfl,.inl rfl,fun hm=>rfl⟩ hf)
         | false=>rfl
def gck{R:Type}(b:Bool)(x:Option R):Option R:=match b with
 | true=>x
 | false=>none
theorem gck_true{R:Type}{x:Option R}:gck true x=x:=rfl
theorem gck_congr{R:Type}{b b':Bool}{x:Option R}(h:b=b'):gck b x=gck b' x:=by rw [h]
def iff2{R:Type}(b:Bool)(x y:Option R):Option R:=match b with
 | true=>x
 | false=>y
theorem iff2_true{R:Type}{x y:Option R}:iff2 true x y=x:=rfl
theorem iff2_false{R:Type}{x y:Option R}:iff2 false x y=y:=rfl
theorem iff2_congr{R:Type}{b b':Bool}{x y:Option R}(h:b=b'):iff2 b x y=iff2 b' x y:=by rw [h]
def dPan{R:Type}(n:Nat)(fr0:Fr)(df:Df)(D:List Rec)(p:Nat)(pre:List Nat)(up:Hp)(v:AV)(k:K R)(hpP:Hp):Option R:=gck (besideOK p (bitsOf pre) hpP D) (k (.pan v) ⟨maskOf fr0 D,app up hpP,n,df⟩)
noncomputable def dl{R:Type}(nx n:Nat)(ops:Array Oper)(fr0:Fr)(hp0:Hp)(df:Df):List Oper→Nat→Tab→List Rec→Fr→Hp→Option (Nat×List Nat×Hp×AV)→K R→Option R
 | [],_,[],D,fr,hp,none,k=>k .normal ⟨fr,hp,n,df⟩
 | [],_,[],D,fr,hp,some (p,pre,up,v),k=>dPan n fr0 df D p pre up v k (hpOf (Nat.testBit (bitsOf pre)) hp0 D)
 | o::rest,i,(pre,chk)::tab,D,fr,hp,pan,k =>
   iff2 (deadL pan pre) (dl nx n ops fr0 hp0 df rest (i+1) tab (⟨i,bitsOf pre,none,.undef,[],[],[]⟩::D) fr hp pan k)
    (stp (nx+64*i) ops o fr hp
     (fun v up=>gck (keysL2 nx i pre up&&apL ⟨i,bitsOf pre,o.dst,v,up,o.looksAt ops,rkD o fr hp⟩ D chk) (dl nx n ops fr0 hp0 df rest (i+1) tab (⟨i,bitsOf pre,o.dst,v,up,o.looksAt ops,rkD o fr hp⟩::D) (putO fr o.dst v) (app up hp) pan k))
     (fun v up=>gck (pan.isNone&&keysL2 nx i pre up&&apL ⟨i,bitsOf pre,none,.undef,[],o.looksAt ops,rkD o fr hp⟩ D chk) (dl nx n ops fr0 hp0 df rest (i+1) tab (⟨i,bitsOf pre,none,.undef,[],o.looksAt ops,rkD o fr hp⟩::D) fr hp (some (i,pre,up,v)) k))
     (fun _=>none))
 | _,_,_,_,_,_,_,_=>none
def dEnd{R:Type}(n:Nat)(fr0:Fr)(hp0:Hp)(df:Df)(k:K R):Option DT→Option R
 | none=>none
 | some s=>match s.pan with
   | none=>k .normal ⟨s.fr,s.hp,n,df⟩
   | some (p,pre,up,v)=>dPan n fr0 df s.D p pre up v k (hpOf (Nat.testBit (bitsOf pre)) hp0 s.D)
theorem dl_eq{R:Type}{n:Nat}{fr0:Fr}{hp0:Hp}{df:Df}{k:K R}:∀(rest:List Oper)(i:Nat)(tab:Tab)(s:DT),(∀ o∈rest,isDefer o.op=false) →
  dl nx n ops fr0 hp0 df rest i tab s.D s.fr s.hp s.pan k=dEnd n fr0 hp0 df k (dGo nx ops rest i tab s)
 | [],i,[],⟨D,fr,hp,none⟩,_=>rfl
 | [],i,[],⟨D,fr,hp,some _⟩,_=>rfl
 | [],i,_::_,s,_=>by unfold dl dGo;rfl
 | o::rest,i,[],s,_=>by unfold dl dGo;rfl
 | o::rest,i,(pre,chk)::tab,s,hd=>by
   have hr:∀ o∈rest,isDefer o.op=false:=fun o ho=>hd o (by simp [ho])
   unfold dl dGo
   cases deadL s.pan pre with
   | true =>
     simp only [iff2,if_true]
     exact dl_eq rest (i+1) tab { s with D:=⟨i,bitsOf pre,none,.undef,[],[],[]⟩::s.D } hr
   | false =>
     simp only [iff2,Bool.false_eq_true,if_false]
     rw [stepD_stp (hd o (by simp))]
     cases stepD cfg.G evW (nx+64*i) ops o s.fr s.hp with
     | none=>rfl
     | some q =>
       obtain⟨ae,up⟩:=q
       cases ae with
       | ret v =>
         simp only
         cases (keysL2 nx i pre up&&apL ⟨i,bitsOf pre,o.dst,v,up,o.looksAt ops,rkD o s.fr s.hp⟩ s.D chk) with
         | true =>
           simp only [gck,if_true]
           exact dl_eq rest (i+1) tab ⟨⟨i,bitsOf pre,o.dst,v,up,o.looksAt ops,rkD o s.fr s.hp⟩::s.D,putO s.fr o.dst v,up++s.hp,s.pan⟩ hr
         | false=>rfl
       | pan v =>
         simp only
         cases (s.pan.isNone&&keysL2 nx i pre up&&apL ⟨i,bitsOf pre,none,.undef,[],o.looksAt ops,rkD o s.fr s.hp⟩ s.D chk) with
         | true =>
           simp only [gck,if_true]
           exact dl_eq rest (i+1) tab ⟨⟨i,bitsOf pre,none,.undef,[],o.looksAt ops,rkD o s.fr s.hp⟩::s.D,s.fr,s.hp,some (i,pre,up,v)⟩ hr
         | false=>rfl
def rrK{R:Type}(n:Nat)(k:K R):Option RR→Option R
 | none=>none
 | some (.ok fr hp df)=>k .normal ⟨fr,hp,n,df⟩
 | some (.pan fr hp df v)=>k (.pan v) ⟨fr,hp,n,df⟩
theorem statT_defer:∀{rest:List Oper}{i:Nat}{tab:Tab}{D:List Rec},statT nt ops rest i tab D=true→∀ o∈rest,isDefer o.op=false
 | [],i,tab,D,h,o,ho=>by cases ho
 | o::rest,i,[],D,h,_,_=>by cases h
 | o::rest,i,(pre,chk)::tab,D,h,o',ho=>by
   simp only [statT,Bool.and_eq_true,Bool.not_eq_true'] at h
   rcases List.mem_cons.1 ho with rfl|ho
   ·exact h.1.1.1.2
   ·exact statT_defer h.2 o' ho
theorem draw_dl{R:Type}{n:Nat}{fr:Fr}{hp:Hp}{df:Df}{k:K R}{tab:Tab}(h:statT nt ops ops.toList 0 tab []=true):rrK n k (drawD cfg.G evW nt nx ops fr hp df)=dl nx n ops fr hp df ops.toList 0 tab [] fr hp none k:=by
 rw [dl_eq ops.toList 0 tab ⟨[],fr,hp,none⟩ (statT_defer h)]
 unfold drawD
 have e:=dGo_eq (nt:=nt) (nx:=nx) ops.toList 0 tab [] ⟨[],fr,hp,none⟩ (by simp) h .nil
 rw [show List.range' 0 ops.toList.length=List.range ops.size by simp [List.range_eq_range']] at e
 have e2:(⟨[],fr,hp,none⟩:DS)=DT.ds ⟨[],fr,hp,none⟩:=rfl
 rw [e2,e]
 cases dGo nx ops ops.toList 0 tab ⟨[],fr,hp,none⟩ with
 | none=>rfl
 | some s =>
   obtain⟨D,fr',hp',pan⟩:=s
   cases pan with
   | none=>rfl
   | some p =>
     obtain⟨p,pre,up,v⟩:=p
     simp only [Option.map_some,DT.ds,dEnd,dPan]
     cases besideOK p (bitsOf pre) (hpOf (Nat.testBit (bitsOf pre)) hp D) D<;>rfl
end
section
variable {R : Type} {nt nx : Nat} {ops : Array Oper}
noncomputable def rl(nx:Nat)(ops:Array Oper):List Oper→Nat→Fr→Hp→Df→K R→Option R
 | [],_,fr,hp,df,k=>k .normal ⟨fr,hp,nx+64*ops.size,df⟩
 | o::rest,i,fr,hp,df,k=>stp (nx+64*i) ops o fr hp (fun v up=>rl nx ops rest (i+1) (putO fr o.dst v) (app up hp) df k) (fun v up=>k (.pan v) ⟨fr,app up hp,nx+64*ops.size,df⟩) (fun q=>rl nx ops rest (i+1) (putO fr o.dst (.tup [])) hp (q::df) k)
theorem run_rl{k:K R}:∀(rest:List Oper)(i:Nat)(fr:Fr)(hp:Hp)(df:Df),ops.toList.drop i=rest→(∀ o∈rest,ltO nt o.dst=true) →
  rrK (nx+64*ops.size) k (runR cfg.G evW nt nx ops (List.range' i rest.length) fr hp df)=rl nx ops rest i fr hp df k
 | [],i,fr,hp,df,_,_=>rfl
 | o::rest,i,fr,hp,df,h,hl=>by
   have ho:ops[i]?=some o:=by
    have:=congrArg (·[0]?) h
    simpa using this
   have hd:ops.toList.drop (i+1)=rest:=by
    rw [← List.drop_drop,h]
    rfl
   have hr:∀ o∈rest,ltO nt o.dst=true:=fun o ho=>hl o (by simp [ho])
   simp only [List.length_cons,List.range'_succ]
   unfold runR rl
   simp only [ho]
   have e:=stepR_stp (R:=R) (base:=nx+64*i) (ops:=ops) (fr:=fr) (hp:=hp) (df:=df) (hl o (by simp))
    (F:=fun fr hp df=>rrK (nx+64*ops.size) k (runR cfg.G evW nt nx ops (List.range' (i+1) rest.length) fr hp df)) (P:=fun v fr hp df=>k (.pan v) ⟨fr,hp,nx+64*ops.size,df⟩)
   have e2:rrK (nx+64*ops.size) k (match stepR cfg.G evW nt (nx+64*i) ops o fr hp df with
     | some (.ok fr hp df)=>runR cfg.G evW nt nx ops (List.range' (i+1) rest.length) fr hp df
     | r=>r)=rrS (stepR cfg.G evW nt (nx+64*i) ops o fr hp df) (fun fr hp df=>rrK (nx+64*ops.size) k (runR cfg.G evW nt nx ops (List.range' (i+1) rest.length) fr hp df)) (fun v fr hp df=>k (.pan v) ⟨fr,hp,nx+64*ops.size,df⟩):=by
    cases stepR cfg.G evW nt (nx+64*i) ops o fr hp df with
    | none=>rfl
    | some q=>cases q<;>rfl
   refine e2.trans (e.trans ?_)
   congr 1
   ·funext v up
    exact run_rl rest (i+1) _ _ df hd hr
   ·funext q
    exact run_rl rest (i+1) _ _ _ hd hr
def dstOK(nt:Nat)(ops:Array Oper):Bool:=ops.toList.all fun o=>ltO nt o.dst
def codeOK(nt:Nat)(tab:Nat→Tab):Code→Bool
 | .region id ops draw=>if draw then statT nt ops ops.toList 0 (tab id) [] else dstOK nt ops
 | .seq a b=>codeOK nt tab a&&codeOK nt tab b
 | .cond _ a b=>codeOK nt tab a&&codeOK nt tab b
 | .block _ a=>codeOK nt tab a
 | .loop a=>codeOK nt tab a
 | _=>true
noncomputable def reg(X:FX)(id:Nat)(ops:Array Oper)(draw:Bool)(k:K R):Option St→Option R
 | none=>none
 | some st=>if draw then dl st.nx (st.nx+64*ops.size) ops st.fr st.hp st.df ops.toList 0 (X.tab id) [] st.fr st.hp none k else rl st.nx ops ops.toList 0 st.fr st.hp st.df k
noncomputable def lpX(X:FX)(c:Code)(st:St)(k:K R):Option R:=loop3 X.nt X.kn X.keep c st k
noncomputable def ex(X:FX):Code→St→K R→Option R
 | .skip,st,k=>k .normal st
 | .label _,st,k=>k .normal st
 | .region id ops draw,st,k=>reg X id ops draw k (frzTs (X.keep.frz id) (pickS (X.keep.live id) st))
 | .seq a b,st,k=>ex X a st fun e st'=>match e with
   | .normal=>ex X b st' k
   | e=>k e st'
 | .cond c x y,st,k=>cnd (opv st.fr c) (ex X x st k) (ex X y st k)
 | .block id c,st,k=>ex X c st fun e st'=>match e with
   | .exit j=>if Nat.beq j id then k .normal st' else k (.exit j) st'
   | e=>k e st'
 | .loop c,st,k=>lpX X c st k
 | .exit j,st,k=>k (.exit j) st
 | .ret,st,k=>k .ret st
 | _,_,_=>none
theorem ex_eq{X:FX}:∀(c:Code)(st:St)(k:K R),codeOK X.nt X.tab c=true→exec4 cfg.G evW X.nt X.keep (loop3 X.nt X.kn X.keep) c st k=ex X c st k
 | .skip,st,k,_=>rfl
 | .label _,st,k,_=>rfl
 | .exit j,st,k,_=>rfl
 | .ret,st,k,_=>rfl
 | .loop c,st,k,_=>rfl
 | .rangeFunc ..,st,k,_=>rfl
 | .scope ..,st,k,_=>rfl
 | .goto ..,st,k,_=>rfl
 | .refuse ..,st,k,_=>rfl
 | .region id ops draw,st0,k,h=>by
   unfold exec4 ex
   cases frzTs (X.keep.frz id) (pickS (X.keep.live id) st0) with
   | none=>rfl
   | some st =>
     simp only [reg]
     have e:∀ q:Option RR,(match q with
       | some (.ok fr hp df)=>k .normal ⟨fr,hp,st.nx+64*ops.size,df⟩
       | some (.pan fr hp df v)=>k (.pan v) ⟨fr,hp,st.nx+64*ops.size,df⟩
       | none=>none)=rrK (st.nx+64*ops.size) k q:=by
      intro q
      cases q with
      | none=>rfl
      | some q=>cases q<;>rfl
     refine(e _).trans ?_
     cases draw with
     | true =>
       simp only [codeOK,if_true] at h ⊢
       exact draw_dl h
     | false =>
       simp only [codeOK,Bool.false_eq_true,if_false] at h ⊢
       have e2:=run_rl (k:=k) (nx:=st.nx) (nt:=X.nt) (ops:=ops) ops.toList 0 st.fr st.hp st.df (by simp) (fun o ho=>List.all_eq_true.1 h o ho)
       rw [show List.range' 0 ops.toList.length=List.range ops.size by simp [List.range_eq_range']] at e2
       exact e2
 | .seq a b,st,k,h=>by
   simp only [codeOK,Bool.and_eq_true] at h
   unfold exec4 ex
   rw [ex_eq a st _ h.1]
   congr 1
   funext e st'
   cases e with
   | normal=>exact ex_eq b st' k h.2
   | exit j=>rfl
   | ret=>rfl
   | pan v=>rfl
 | .cond c x y,st,k,h=>by
   simp only [codeOK,Bool.and_eq_true] at h
   unfold exec4 ex
   cases opv st.fr c with
   | none=>rfl
   | some v =>
     cases v<;>try rfl
     rename_i t
     cases t with
     | true=>exact ex_eq x st k h.1
     | false=>exact ex_eq y st k h.2
 | .block id c,st,k,h=>by
   simp only [codeOK] at h
   unfold exec4 ex
   exact ex_eq c st _ h
end
noncomputable def dlT{R:Type}(nx n:Nat)(ops:Array Oper)(fr:Fr)(hp:Hp)(df:Df)(tab:Tab)(k:K R):Option R:=dl nx n ops fr hp df ops.toList 0 tab [] fr hp none k
theorem dlT_congr{R:Type}{nx n:Nat}{ops:Array Oper}{fr:Fr}{hp:Hp}{df:Df}{tab tab':Tab}{k:K R}(h:tab=tab'):dlT nx n ops fr hp df tab k=dlT nx n ops fr hp df tab' k:=by rw [h]
noncomputable def kSeq{R:Type}(X:FX)(b:Code)(k:K R):K R:=fun e st=>match e with
 | .normal=>ex X b st k
 | e=>k e st
def kBlk{R:Type}(id:Nat)(k:K R):K R:=fun e st=>match e with
 | .exit j=>if Nat.beq j id then k .normal st else k (.exit j) st
 | e=>k e st
noncomputable def kLoop{R:Type}(X:FX)(c:Code)(k:K R):K R:=fun e st=>match e with
 | .normal=>lpX X c st k
 | e=>k e st
section
variable {R : Type} {X : FX} {k : K R} {st : St}
theorem kSeq_normal{b:Code}:kSeq X b k .normal st=ex X b st k:=rfl
theorem kSeq_exit{b:Code}{j:Nat}:kSeq X b k (.exit j) st=k (.exit j) st:=rfl
theorem kSeq_ret{b:Code}:kSeq X b k .ret st=k .ret st:=rfl
theorem kSeq_pan{b:Code}{v:AV}:kSeq X b k (.pan v) st=k (.pan v) st:=rfl
theorem kBlk_normal{id:Nat}:kBlk id k .normal st=k .normal st:=rfl
theorem kBlk_exit{id j:Nat}:kBlk id k (.exit j) st=if j=id then k .normal st else k (.exit j) st:=by
 simp only [kBlk]
 by_cases h:j=id
 ·subst h;simp
 ·rw [if_neg h,if_neg (fun e=>h (Nat.eq_of_beq_eq_true e))]
theorem kBlk_ret{id:Nat}:kBlk id k .ret st=k .ret st:=rfl
theorem kBlk_pan{id:Nat}{v:AV}:kBlk id k (.pan v) st=k (.pan v) st:=rfl
theorem kLoop_normal{c:Code}:kLoop X c k .normal st=lpX X c st k:=rfl
theorem kLoop_exit{c:Code}{j:Nat}:kLoop X c k (.exit j) st=k (.exit j) st:=rfl
theorem kLoop_ret{c:Code}:kLoop X c k .ret st=k .ret st:=rfl
theorem kLoop_pan{c:Code}{v:AV}:kLoop X c k (.pan v) st=k (.pan v) st:=rfl
theorem ex_skip:ex X .skip st k=k .normal st:=rfl
theorem ex_label{l:Nat}:ex X (.label l) st k=k .normal st:=rfl
theorem ex_exit{j:Nat}:ex X (.exit j) st k=k (.exit j) st:=rfl
theorem ex_ret:ex X .ret st k=k .ret st:=rfl
theorem ex_loop{c:Code}:ex X (.loop c) st k=lpX X c st k:=rfl
theorem ex_seq{a b:Code}:ex X (.seq a b) st k=ex X a st (kSeq X b k):=rfl
theorem ex_block{id:Nat}{c:Code}:ex X (.block id c) st k=ex X c st (kBlk id k):=rfl
theorem ex_cond{c:Operand}{a b:Code}:ex X (.cond c a b) st k=cnd (opv st.fr c) (ex X a st k) (ex X b st k):=rfl
theorem ex_region{id:Nat}{ops:Array Oper}{draw:Bool}:ex X (.region id ops draw) st k=reg X id ops draw k (frzTs (X.keep.frz id) (pickS (X.keep.live id) st)):=rfl
theorem reg_congr{id:Nat}{ops:Array Oper}{draw:Bool}{o o':Option St}(h:o=o'):reg X id ops draw k o=reg X id ops draw k o':=by rw [h]
theorem reg_text{id:Nat}{ops:Array Oper}{fr:Fr}{hp:Hp}{nx:Nat}{df:Df}:reg X id ops false k (some ⟨fr,hp,nx,df⟩)=rl nx ops ops.toList 0 fr hp df k:=rfl
theorem reg_draw{id:Nat}{ops:Array Oper}{fr:Fr}{hp:Hp}{nx:Nat}{df:Df}:reg X id ops true k (some ⟨fr,hp,nx,df⟩)=dlT nx (nx+64*ops.size) ops fr hp df (X.tab id) k:=rfl
theorem lpX_eq{c:Code}(h:codeOK X.nt X.tab c=true):lpX X c st k=ob (normSt X.kn (X.keep.keep (firstId c)) st) fun st0=>ex X c st0 (kLoop X c k):=by
 unfold lpX
 rw [loop3_eq]
 cases normSt X.kn (X.keep.keep (firstId c)) st with
 | none=>rfl
 | some st0=>exact ex_eq c st0 _ h
end
def cres(base:Nat)(q:Option (AE×List Obj')):Option (AE×Hp):=match q with
 | some (.ret r,objs')=>match ren (back [] base) r,upsOf [] base 0 objs' with
   | some v,some up=>some (.ret v,up)
   | _,_=>none
 | some (.pan r,objs')=>match ren (back [] base) r,upsOf [] base 0 objs' with
   | some v,some up=>some (.pan v,up)
   | _,_=>none
 | none=>none
theorem callD_nokeys{call:CallF}{base g:Nat}{args:List AV}{hp:Hp}(h:keysL args=[]):callD call base g args hp=cres base (call g args []):=by
 unfold callD
 have hr:renL (fun b=>idx b [] 0) args=some args:=renL_pure _ args h
 simp only [h,reach,hr,objsOf]
 cases call g args [] with
 | none=>rfl
 | some q =>
   obtain⟨ae,objs'⟩:=q
   cases ae<;>(simp [cres];rfl)
theorem cres_ret{base:Nat}{v:AV}(h:keysAV v=[]):cres base (some (.ret v,[]))=some (.ret v,[]):=by
 simp [cres,ren_pure _ v h,upsOf]
theorem cres_pan{base:Nat}{v:AV}(h:keysAV v=[]):cres base (some (.pan v,[]))=some (.pan v,[]):=by
 simp [cres,ren_pure _ v h,upsOf]
theorem leave_pure{hp:Hp}{v:AV}(h:keysAV v=[]):leave 0 hp v=some (v,[]):=by
 simp [leave,h,reach,ren_pure _ v h,objsOf]
noncomputable def fnR(keep:Keep6)(rs:List ResultVar)(kn:Nat)(ss:List (List (Option Nat))):K (AE×List Obj'):=fun e st=>(match frzEnd keep.toKeep e (pickS (keep.live 99999) st) with
 | none=>none
 | some st=>match door cfg.G cfg.catchF cfg.errT e st with
   | some (none,st)=>match resV cfg.G st rs with
     | some l=>(leave kn st.hp (packV l)).map fun(q:AV×List Obj')=>((AE.ret q.1,q.2):AE×List Obj')
     | none=>none
   | some (some v,st)=>(leave kn st.hp v).map fun(q:AV×List Obj')=>((AE.pan q.1,q.2):AE×List Obj')
   | none=>none).map (canE ss)
theorem fin_fnR{keep:Keep6}{F:Func}{kn:Nat}{rs:List ResultVar}{ss:List (List (Option Nat))}(h:F.results.toList=rs):(fun e st=>(fin keep F kn e st).map (canE ss))=fnR keep rs kn ss:=by
 subst h
 funext e st
 unfold fin fnR finish
 rfl
noncomputable def finK(rs:List ResultVar)(kn:Nat)(ss:List (List (Option Nat)))(e:AX)(o:Option St):Option (AE×List Obj'):=ob o fun st=>(match door cfg.G cfg.catchF cfg.errT e st with
  | some (none,st)=>match resV cfg.G st rs with
    | some l=>(leave kn st.hp (packV l)).map fun(q:AV×List Obj')=>((AE.ret q.1,q.2):AE×List Obj')
    | none=>none
  | some (some v,st)=>(leave kn st.hp v).map fun(q:AV×List Obj')=>((AE.pan q.1,q.2):AE×List Obj')
  | none=>none).map (canE ss)
theorem finK_congr{rs:List ResultVar}{kn:Nat}{ss:List (List (Option Nat))}{e:AX}{o o':Option St}(h:o=o'):finK rs kn ss e o=finK rs kn ss e o':=by rw [h]
theorem fin_ret{keep:Keep6}{rs:List ResultVar}{kn:Nat}{ss:List (List (Option Nat))}{st:St}:fnR keep rs kn ss .ret st=finK rs kn ss .ret (frzTs (keep.frz 99999) (pickS (keep.live 99999) st)):=by
 unfold fnR finK frzEnd
 simp only
 cases frzTs (keep.frz 99999) (pickS (keep.live 99999) st)<;>rfl
theorem fin_normal{keep:Keep6}{rs:List ResultVar}{kn:Nat}{ss:List (List (Option Nat))}{st:St}:fnR keep rs kn ss .normal st=finK rs kn ss .normal (frzTs (keep.frz 99999) (pickS (keep.live 99999) st)):=by
 unfold fnR finK frzEnd
 simp only
 cases frzTs (keep.frz 99999) (pickS (keep.live 99999) st)<;>rfl
theorem fin_pan{keep:Keep6}{rs:List ResultVar}{kn:Nat}{ss:List (List (Option Nat))}{st:St}{v:AV}:fnR keep rs kn ss (.pan v) st=finK rs kn ss (.pan v) (some (pickS (keep.live 99999) st)):=rfl
def lvK(kn:Nat)(ss:List (List (Option Nat)))(hp:Hp)(v:AV):Option (AE×List Obj'):=(leave kn hp v).map fun q=>(.ret (canR ss q.1),q.2)
theorem lvK_pure{ss:List (List (Option Nat))}{hp:Hp}{v:AV}(h:keysAV v=[]):lvK 0 ss hp v=some (.ret (canR ss v),[]):=by
 unfold lvK
 rw [leave_pure h]
 rfl
def lvP(kn:Nat)(hp:Hp)(v:AV):Option (AE×List Obj'):=(leave kn hp v).map fun q=>(.pan q.1,q.2)
theorem lvP_pure{hp:Hp}{v:AV}(h:keysAV v=[]):lvP 0 hp v=some (.pan v,[]):=by
 unfold lvP
 rw [leave_pure h]
 rfl
theorem finK_ret{rs:List ResultVar}{kn:Nat}{ss:List (List (Option Nat))}{fr:Fr}{hp:Hp}{nx:Nat}:finK rs kn ss .ret (some ⟨fr,hp,nx,[]⟩)=ob (resV cfg.G ⟨fr,hp,nx,[]⟩ rs) fun l=>lvK kn ss hp (packV l):=by
 simp only [finK,ob_some,door]
 cases resV cfg.G ⟨fr,hp,nx,[]⟩ rs with
 | none=>rfl
 | some l =>
   simp only [ob_some,lvK]
   cases leave kn hp (packV l)<;>rfl
theorem finK_normal{rs:List ResultVar}{kn:Nat}{ss:List (List (Option Nat))}{fr:Fr}{hp:Hp}{nx:Nat}:finK rs kn ss .normal (some ⟨fr,hp,nx,[]⟩)=ob (resV cfg.G ⟨fr,hp,nx,[]⟩ rs) fun l=>lvK kn ss hp (packV l):=by
 simp only [finK,ob_some,door]
 cases resV cfg.G ⟨fr,hp,nx,[]⟩ rs with
 | none=>rfl
 | some l =>
   simp only [ob_some,lvK]
   cases leave kn hp (packV l)<;>rfl
theorem finK_pan{rs:List ResultVar}{kn:Nat}{ss:List (List (Option Nat))}{fr:Fr}{hp:Hp}{nx:Nat}{v:AV}:finK rs kn ss (.pan v) (some ⟨fr,hp,nx,[]⟩)=lvP kn hp v:=by
 simp only [finK,ob_some,door,lvP]
 cases leave kn hp v<;>rfl
theorem exec4_map{R S:Type}{nt kn:Nat}{keep:Keep6}{c:Code}{st:St}{k:AX→St→Option R}{g:R→S}:(exec4 cfg.G evW nt keep (loop3 nt kn keep) c st k).map g=exec4 cfg.G evW nt keep (loop3 nt kn keep) c st fun e st=>(k e st).map g:=by
 rw [← exec3_eq4,← exec3_eq4]
 unfold exec3
 cases runW nt kn keep c st<;>rfl
theorem resV_nil{G:Gl}{st:St}:resV G st []=some []:=rfl
theorem resV_tmp{G:Gl}{st:St}{t:Nat}{r:List ResultVar}:resV G st (.tmp t::r)=ob (look t st.fr) fun v=>ob (resV G st r) fun l=>some (v::l):=by
 conv=>lhs;unfold resV
 cases look t st.fr with
 | none=>rfl
 | some v=>cases resV G st r<;>rfl
theorem resV_cell{G:Gl}{st:St}{t T:Nat}{r:List ResultVar}:resV G st (.cell t T::r)=ob (look t st.fr) fun a=>ob (loadD G st.hp T a) fun v=>ob (resV G st r) fun l=>some (v::l):=by
 conv=>lhs;unfold resV
 cases look t st.fr with
 | none=>rfl
 | some a =>
   simp only [Option.bind_some,ob_some]
   cases loadD G st.hp T a with
   | none=>rfl
   | some v=>cases resV G st r<;>rfl
theorem evW_ex{f:Nat}{args:List AV}{objs:List Obj'}{F:Func}{nt:Nat}{rs:List ResultVar}{sa ss:List (List (Option Nat))}{tab:Nat→Tab}(hk0:kn f (canVs (ashOf f) args) objs=none)(hF:cfg.G.fn f=some F)(hc:F.body=some (bodyOf F))(hn:F.ntmps=nt)(hr:F.results.toList=rs)(ha:ashOf f=sa)(hs:rshOf f=ss)(hk:codeOK nt tab (bodyOf F)=true)(hl:Nat.ble args.length nt=true) :
  evW f args objs=ex ⟨nt,objs.length,kpOf f,tab⟩ (bodyOf F) ⟨numbered 0 (canVs sa args),numbered 0 objs,objs.length,[]⟩ (fnR (kpOf f) rs objs.length ss):=by
 subst hn ha hs
 rw [← fin_fnR hr]
 refine(evW_eq hk0 hF hc hl).trans ?_
 rw [exec4_map]
 exact ex_eq (X:=⟨F.ntmps,objs.length,kpOf f,tab⟩) (bodyOf F) _ _ hk
theorem cVs_nil{xs:List AV}:canVs [] xs=xs:=by simp only [canVs]
theorem cVs_cons{s:List (Option Nat)}{ss:List (List (Option Nat))}{x:AV}{xs:List AV}:canVs (s::ss) (x::xs)=canV s x::canVs ss xs:=rfl
theorem cVs_end{ss:List (List (Option Nat))}:canVs ss []=[]:=by cases ss<;>rfl
theorem cV_nil{x:AV}:canV [] x=x:=by cases x<;>simp [canV,canCs]
theorem cV_agg{ss:List (Option Nat)}{cs:List AV}:canV ss (.agg cs) = .agg (canCs ss cs):=by cases ss<;>rfl
theorem cV_nils{n:Nat}{r:List (Option Nat)}:canV (some n::r) .nils = .sl n []:=rfl
theorem cV_sl{n m:Nat}{r:List (Option Nat)}{es:List (List AV)}:canV (some n::r) (.sl m es) = .sl m es:=rfl
theorem cV_row{n b o m:Nat}{r:List (Option Nat)}:canV (some n::r) (.row b o m) = .row b o m:=rfl
theorem cC_nil{xs:List AV}:canCs [] xs=xs:=by simp only [canCs]
theorem cC_end{ss:List (Option Nat)}:canCs ss []=[]:=by cases ss<;>rfl
theorem cC_none{ss:List (Option Nat)}{x:AV}{xs:List AV}:canCs (none::ss) (x::xs)=x::canCs ss xs:=rfl
theorem cC_nils{n:Nat}{ss:List (Option Nat)}{xs:List AV}:canCs (some n::ss) (.nils::xs) = .sl n []::canCs ss xs:=rfl
theorem cC_sl{n m:Nat}{es:List (List AV)}{ss:List (Option Nat)}{xs:List AV}:canCs (some n::ss) (.sl m es::xs) = .sl m es::canCs ss xs:=rfl
theorem cC_row{n b o m:Nat}{ss:List (Option Nat)}{xs:List AV}:canCs (some n::ss) (.row b o m::xs) = .row b o m::canCs ss xs:=rfl
theorem cR_one{s:List (Option Nat)}{x:AV}:canR [s] x=canV s x:=rfl
theorem cR_two{s t:List (Option Nat)}{ss:List (List (Option Nat))}{l:List AV}:canR (s::t::ss) (.tup l) = .tup (canVs (s::t::ss) l):=rfl
theorem cR_nil{x:AV}:canR [] x=x:=by cases x<;>simp [canR,canVs]
theorem look_k{α:Type}{t:Nat}{a:Nat}{x:α}{r:List (Nat×α)}:look t ((a,x)::r)=if t=a then some x else look t r:=look_cons ..
theorem opv_tmp{fr:Fr}{t:Nat}:opv fr (.tmp t)=look t fr:=rfl
theorem opv_func{fr:Fr}{f:Nat}:opv fr (.func f)=some (.fn f []):=rfl
theorem opv_int{fr:Fr}{k:IntKind}{n:Int}:opv fr (.const (.int k n))=some (.int k n):=rfl
theorem opv_bool{fr:Fr}{b:Bool}:opv fr (.const (.bool b))=some (.bool b):=rfl
theorem opv_str{fr:Fr}{s:ByteArray}:opv fr (.const (.string s))=some (.str s.data.toList):=rfl
theorem opv_nilp{fr:Fr}:opv fr (.const (.pointer none))=some .nilp:=rfl
theorem opv_nils{fr:Fr}:opv fr (.const (.slice none 0 0))=some .nils:=rfl
theorem opv_nilfn{fr:Fr}:opv fr (.const .nilFunc)=some .nilfn:=rfl
theorem opv_nilif{fr:Fr}:opv fr (.const .nilIface)=some .nilif:=rfl
theorem opv_nilm{fr:Fr}:opv fr (.const (.map none))=some .nilm:=rfl
theorem pickF_nil{fr:Fr}:pickF fr []=[]:=rfl
def pkK(o:Option AV)(t:Nat)(r:Fr):Fr:=match o with
 | some v=>(t,v)::r
 | none=>r
theorem pickF_cons{fr:Fr}{t:Nat}{r:List Nat}:pickF fr (t::r)=pkK (look t fr) t (pickF fr r):=by
 conv=>lhs;unfold pickF
 cases look t fr<;>rfl
theorem pkK_some{v:AV}{t:Nat}{r:Fr}:pkK (some v) t r=(t,v)::r:=rfl
theorem pkK_none{t:Nat}{r:Fr}:pkK none t r=r:=rfl
theorem pkK_congr{o o':Option AV}{t:Nat}{r:Fr}(h:o=o'):pkK o t r=pkK o' t r:=by rw [h]
theorem pickS_mk{l:List Nat}{fr:Fr}{hp:Hp}{nx:Nat}{df:Df}:pickS l ⟨fr,hp,nx,df⟩=⟨pickF fr l,hp,nx,df⟩:=rfl
theorem frzTs_nil{st:St}:frzTs [] st=some st:=rfl
theorem bin_eql{G:Gl}{T:Nat}{k:IntKind}{a b:Int}:binD G .eql T (.int k a) (.int k b)=some (.bool (a==b)):=by simp [binD,isShift,intOp]
theorem bin_neq{G:Gl}{T:Nat}{k:IntKind}{a b:Int}:binD G .neq T (.int k a) (.int k b)=some (.bool (!(a==b))):=by simp [binD,isShift,intOp,bne]
theorem bin_lss{G:Gl}{T:Nat}{k:IntKind}{a b:Int}:binD G .lss T (.int k a) (.int k b)=some (.bool (decide (a<b))):=by simp [binD,isShift,intOp]
theorem bin_leq{G:Gl}{T:Nat}{k:IntKind}{a b:Int}:binD G .leq T (.int k a) (.int k b)=some (.bool (decide (a≤b))):=by simp [binD,isShift,intOp]
theorem bin_gtr{G:Gl}{T:Nat}{k:IntKind}{a b:Int}:binD G .gtr T (.int k a) (.int k b)=some (.bool (decide (b<a))):=by simp [binD,isShift,intOp]
theorem bin_geq{G:Gl}{T:Nat}{k:IntKind}{a b:Int}:binD G .geq T (.int k a) (.int k b)=some (.bool (decide (b≤a))):=by simp [binD,isShift,intOp]
theorem bin_add{G:Gl}{T:Nat}{k:IntKind}{a b:Int}:binD G .add T (.int k a) (.int k b)=some (.int k (k.wrap (a+b))):=by simp [binD,isShift,intOp]
theorem bin_sub{G:Gl}{T:Nat}{k:IntKind}{a b:Int}:binD G .sub T (.int k a) (.int k b)=some (.int k (k.wrap (a-b))):=by simp [binD,isShift,intOp]
theorem bin_mul{G:Gl}{T:Nat}{k:IntKind}{a b:Int}:binD G .mul T (.int k a) (.int k b)=some (.int k (k.wrap (a*b))):=by simp [binD,isShift,intOp]
theorem bin_and{G:Gl}{T:Nat}{k:IntKind}{a b:Int}:binD G .and T (.int k a) (.int k b)=some (.int k (k.wrap (BitVec.ofInt k.bits a &&& BitVec.ofInt k.bits b).toNat)):=by simp [binD,isShift,intOp]
theorem bin_or{G:Gl}{T:Nat}{k:IntKind}{a b:Int}:binD G .or T (.int k a) (.int k b)=some (.int k (k.wrap (BitVec.ofInt k.bits a ||| BitVec.ofInt k.bits b).toNat)):=by simp [binD,isShift,intOp]
theorem bin_xor{G:Gl}{T:Nat}{k:IntKind}{a b:Int}:binD G .xor T (.int k a) (.int k b)=some (.int k (k.wrap (BitVec.ofInt k.bits a ^^^ BitVec.ofInt k.bits b).toNat)):=by simp [binD,isShift,intOp]
theorem bin_quo{G:Gl}{T:Nat}{k:IntKind}{a b:Int}(h:(b==0)=false):binD G .quo T (.int k a) (.int k b)=some (.int k (k.wrap (a.tdiv b))):=by simp at h;simp [binD,isShift,intOp,h]
theorem bin_rem{G:Gl}{T:Nat}{k:IntKind}{a b:Int}(h:(b==0)=false):binD G .rem T (.int k a) (.int k b)=some (.int k (a.tmod b)):=by simp at h;simp [binD,isShift,intOp,h]
theorem bin_shl{G:Gl}{T:Nat}{k k':IntKind}{a b:Int}(h:decide (b<0)=false):binD G .shl T (.int k a) (.int k' b)=some (.int k (k.wrap (a*2^(min b.toNat k.bits)))):=by simp at h;simp [binD,isShift,shiftOp,Int.not_lt.2 h]
theorem bin_shr{G:Gl}{T:Nat}{k k':IntKind}{a b:Int}(h:decide (b<0)=false):binD G .shr T (.int k a) (.int k' b)=some (.int k (a.fdiv (2^(min b.toNat k.bits)))):=by simp at h;simp [binD,isShift,shiftOp,Int.not_lt.2 h]
theorem bin_str_eql{G:Gl}{T:Nat}{a b:List UInt8}:binD G .eql T (.str a) (.str b)=some (.bool (a==b)):=rfl
theorem bin_str_neq{G:Gl}{T:Nat}{a b:List UInt8}:binD G .neq T (.str a) (.str b)=some (.bool (!(a==b))):=rfl
theorem bin_str_add{G:Gl}{T:Nat}{a b:List UInt8}(h:a.length+b.length≤1152921504606846976):binD G .add T (.str a) (.str b)=some (.str (a++b)):=by simp [binD,h]
theorem bin_bool_eql{G:Gl}{T:Nat}{a b:Bool}(h:isBoolT G T=true):binD G .eql T (.bool a) (.bool b)=some (.bool (a==b)):=by simp [binD,h]
theorem bin_bool_neq{G:Gl}{T:Nat}{a b:Bool}(h:isBoolT G T=true):binD G .neq T (.bool a) (.bool b)=some (.bool (!(a==b))):=by simp [binD,h]
theorem un_not{b:Bool}:unD .not (.bool b)=some (.bool (!b)):=rfl
theorem un_neg{k:IntKind}{n:Int}:unD .neg (.int k n)=some (.int k (k.wrap (0-n))):=rfl
theorem argsD_nil{fr:Fr}:argsD fr []=some []:=rfl
theorem argsD_cons{fr:Fr}{x:Operand}{r:List Operand}:argsD fr (x::r)=ob (opv fr x) fun v=>ob (argsD fr r) fun l=>some (v::l):=by
 conv=>lhs;unfold argsD
 cases opv fr x with
 | none=>rfl
 | some v=>cases argsD fr r<;>rfl
theorem partsD_nil{fr:Fr}:partsD fr []=some []:=rfl
theorem partsD_cons{fr:Fr}{i:Nat}{x:Operand}{r:List (Nat×Operand)}:partsD fr ((i,x)::r)=ob (opv fr x) fun v=>ob (cellsOf v) fun c=>ob (partsD fr r) fun l=>some ((i,c)::l):=by
 conv=>lhs;unfold partsD
 cases opv fr x with
 | none=>rfl
 | some v =>
   simp only [Option.bind_some,ob_some]
   cases cellsOf v with
   | none=>rfl
   | some c=>cases partsD fr r<;>rfl
theorem num_nil{α:Type}{i:Nat}:numbered i ([]:List α)=[]:=rfl
theorem num_cons{α:Type}{i:Nat}{x:α}{r:List α}:numbered i (x::r)=(i,x)::numbered (i+1) r:=rfl
theorem kL_nil:keysL []=[]:=rfl
theorem kL_cons{x:AV}{r:List AV}:keysL (x::r)=keysAV x++keysL r:=rfl
theorem kA_int{k:IntKind}{n:Int}:keysAV (.int k n)=[]:=rfl
theorem kA_bool{b:Bool}:keysAV (.bool b)=[]:=rfl
theorem kA_str{s:List UInt8}:keysAV (.str s)=[]:=rfl
theorem kA_sl{n:Nat}{es:List (List AV)}:keysAV (.sl n es)=[]:=rfl
theorem kA_nils:keysAV .nils=[]:=rfl
theorem kA_nilp:keysAV .nilp=[]:=rfl
theorem kA_nilfn:keysAV .nilfn=[]:=rfl
theorem kA_nilif:keysAV .nilif=[]:=rfl
theorem kA_nilm:keysAV .nilm=[]:=rfl
theorem kA_ep{cs:List AV}:keysAV (.ep cs)=[]:=rfl
theorem kA_fn{f:Nat}{cs:List AV}:keysAV (.fn f cs)=keysL cs:=rfl
theorem kA_agg{cs:List AV}:keysAV (.agg cs)=keysL cs:=rfl
theorem kA_tup{cs:List AV}:keysAV (.tup cs)=keysL cs:=rfl
theorem kA_ifc{t:Nat}{v:AV}:keysAV (.ifc t v)=keysAV v:=rfl
theorem kA_ptr{b o:Nat}:keysAV (.ptr b o)=[b]:=rfl
theorem kA_rp{b i o:Nat}:keysAV (.rp b i o)=[b]:=rfl
theorem kA_row{b i o:Nat}:keysAV (.row b i o)=[b]:=rfl
theorem kA_mp{b:Nat}:keysAV (.mp b)=[b]:=rfl
theorem kA_undef:keysAV .undef=[]:=rfl
theorem kT_nil{fr:Fr}:keysT fr []=[]:=rfl
def kTK(o:Option AV)(r:List Nat):List Nat:=match o with
 | some v=>keysAV v++r
 | none=>r
theorem kT_cons{fr:Fr}{t:Nat}{r:List Nat}:keysT fr (t::r)=kTK (look t fr) (keysT fr r):=by
 conv=>lhs;unfold keysT
 cases look t fr<;>rfl
theorem kTK_some{v:AV}{r:List Nat}:kTK (some v) r=keysAV v++r:=rfl
theorem kTK_congr{o o':Option AV}{r:List Nat}(h:o=o'):kTK o r=kTK o' r:=by rw [h]
theorem frzTs_cons{t:Nat}{r:List Nat}{fr:Fr}{hp:Hp}{nx:Nat}{df:Df}:frzTs (t::r) ⟨fr,hp,nx,df⟩=frzK 100 (keysT fr (t::r)) ⟨fr,hp,nx,df⟩:=rfl
theorem pack1{x:AV}:packV [x]=x:=rfl
theorem pack0:packV [] = .tup []:=rfl
theorem pack2{x y:AV}{r:List AV}:packV (x::y::r) = .tup (x::y::r):=rfl
section
variable {R : Type} {nx n i : Nat} {ops : Array Oper} {fr0 fr : Fr} {hp0 hp : Hp} {df : Df} {rest : List Oper} {tab : Tab} {D : List Rec} {k : K R} {pre : List Nat} {dst : Option Nat} {op : Op} {ty : TypeId} {pos : String} {af : Array Edge} {gd : Option (Nat × Bool)}
theorem dlT_go{e:List Nat×List Nat}:dlT nx n ops fr hp df (e::tab) k=dl nx n ops fr hp df ops.toList 0 (e::tab) [] fr hp none k:=rfl
theorem dl_nil:dl nx n ops fr0 hp0 df [] i [] D fr hp none k=k .normal ⟨fr,hp,n,df⟩:=by unfold dl;rfl
def sel{A:Type}(b:Bool)(x y:A):A:=match b with
 | true=>x
 | false=>y
theorem sel_true{A:Type}{x y:A}:sel true x y=x:=rfl
theorem sel_false{A:Type}{x y:A}:sel false x y=y:=rfl
theorem sel_congr{A:Type}{b b':Bool}{x y:A}(h:b=b'):sel b x y=sel b' x y:=by rw [h]
def hpL(pre:List Nat)(hp:Hp):List Rec→Hp
 | []=>hp
 | r::D=>sel (hasN r.i pre) (app r.up (hpL pre hp D)) (hpL pre hp D)
theorem hpL_eq:∀ D,hpOf (Nat.testBit (bitsOf pre)) hp D=hpL pre hp D
 | []=>rfl
 | r::D=>by
   simp only [hpOf,hpL,testBit_bitsOf,hpL_eq D]
   cases hasN r.i pre<;>rfl
def besL(pre:List Nat)(hpP:Hp):List Rec→Bool
 | []=>true
 | r::D=>sel (hasN r.i pre) true (r.up.all fun q=>(look q.1 hpP).isNone)&&besL pre hpP D
theorem besL_eq{p:Nat}{hpP:Hp}:∀ D,besideOK p (bitsOf pre) hpP D=besL pre hpP D
 | []=>rfl
 | r::D=>by
   simp only [besideOK,besL,testBit_bitsOf,besL_eq D]
   cases hasN r.i pre<;>rfl
def dPn(n:Nat)(fr0:Fr)(df:Df)(D:List Rec)(pre:List Nat)(up:Hp)(v:AV)(k:K R)(hpP:Hp):Option R:=gck (besL pre hpP D) (k (.pan v) ⟨maskOf fr0 D,app up hpP,n,df⟩)
theorem dPn_congr{up:Hp}{v:AV}{h h':Hp}(e:h=h'):dPn n fr0 df D pre up v k h=dPn n fr0 df D pre up v k h':=by rw [e]
theorem dPn_nil{up:Hp}{v:AV}:dPn n fr0 df D pre up v k []=gck (besL pre [] D) (k (.pan v) ⟨maskOf fr0 D,app up [],n,df⟩):=rfl
theorem dPn_cons{up:Hp}{v:AV}{q:Nat×Obj'}{r:Hp}:dPn n fr0 df D pre up v k (q::r)=gck (besL pre (q::r) D) (k (.pan v) ⟨maskOf fr0 D,app up (q::r),n,df⟩):=rfl
theorem dl_end{p:Nat}{up:Hp}{v:AV}:dl nx n ops fr0 hp0 df [] i [] D fr hp (some (p,pre,up,v)) k=dPn n fr0 df D pre up v k (hpL pre hp0 D):=by
 unfold dl dPan dPn
 rw [hpL_eq,besL_eq]
theorem dl_live:dl nx n ops fr0 hp0 df (⟨dst,op,ty,pos,af,gd⟩::rest) i ((pre,[])::tab) D fr hp none k =
  stp (nx+64*i) ops ⟨dst,op,ty,pos,af,gd⟩ fr hp
   (fun v up=>gck (keysL2 nx i pre up) (dl nx n ops fr0 hp0 df rest (i+1) tab (⟨i,bitsOf pre,dst,v,up,Oper.looksAt ops ⟨dst,op,ty,pos,af,gd⟩,rkD ⟨dst,op,ty,pos,af,gd⟩ fr hp⟩::D) (putO fr dst v) (app up hp) none k))
   (fun v up=>gck (keysL2 nx i pre up) (dl nx n ops fr0 hp0 df rest (i+1) tab (⟨i,bitsOf pre,none,.undef,[],Oper.looksAt ops ⟨dst,op,ty,pos,af,gd⟩,rkD ⟨dst,op,ty,pos,af,gd⟩ fr hp⟩::D) fr hp (some (i,pre,up,v)) k))
   (fun _=>none):=by
 conv=>lhs;unfold dl
 simp only [deadL,iff2,apL,Bool.and_true,Option.isNone_none,Bool.true_and]
theorem dl_livec{c:Nat}{chk:List Nat}:dl nx n ops fr0 hp0 df (⟨dst,op,ty,pos,af,gd⟩::rest) i ((pre,c::chk)::tab) D fr hp none k =
  stp (nx+64*i) ops ⟨dst,op,ty,pos,af,gd⟩ fr hp
   (fun v up=>gck (keysL2 nx i pre up&&apL ⟨i,bitsOf pre,dst,v,up,Oper.looksAt ops ⟨dst,op,ty,pos,af,gd⟩,rkD ⟨dst,op,ty,pos,af,gd⟩ fr hp⟩ D (c::chk)) (dl nx n ops fr0 hp0 df rest (i+1) tab (⟨i,bitsOf pre,dst,v,up,Oper.looksAt ops ⟨dst,op,ty,pos,af,gd⟩,rkD ⟨dst,op,ty,pos,af,gd⟩ fr hp⟩::D) (putO fr dst v) (app up hp) none k))
   (fun v up=>gck (keysL2 nx i pre up&&apL ⟨i,bitsOf pre,none,.undef,[],Oper.looksAt ops ⟨dst,op,ty,pos,af,gd⟩,rkD ⟨dst,op,ty,pos,af,gd⟩ fr hp⟩ D (c::chk)) (dl nx n ops fr0 hp0 df rest (i+1) tab (⟨i,bitsOf pre,none,.undef,[],Oper.looksAt ops ⟨dst,op,ty,pos,af,gd⟩,rkD ⟨dst,op,ty,pos,af,gd⟩ fr hp⟩::D) fr hp (some (i,pre,up,v)) k))
   (fun _=>none):=by
 conv=>lhs;unfold dl
 simp only [deadL,iff2,Option.isNone_none,Bool.true_and]
theorem dl_pan{p:Nat}{pp:List Nat}{upp:Hp}{vp:AV}{chk:List Nat}:dl nx n ops fr0 hp0 df (⟨dst,op,ty,pos,af,gd⟩::rest) i ((pre,chk)::tab) D fr hp (some (p,pp,upp,vp)) k =
  iff2 (hasN p pre) (dl nx n ops fr0 hp0 df rest (i+1) tab (⟨i,bitsOf pre,none,.undef,[],[],[]⟩::D) fr hp (some (p,pp,upp,vp)) k)
   (stp (nx+64*i) ops ⟨dst,op,ty,pos,af,gd⟩ fr hp
   (fun v up=>gck (keysL2 nx i pre up&&apL ⟨i,bitsOf pre,dst,v,up,Oper.looksAt ops ⟨dst,op,ty,pos,af,gd⟩,rkD ⟨dst,op,ty,pos,af,gd⟩ fr hp⟩ D chk) (dl nx n ops fr0 hp0 df rest (i+1) tab (⟨i,bitsOf pre,dst,v,up,Oper.looksAt ops ⟨dst,op,ty,pos,af,gd⟩,rkD ⟨dst,op,ty,pos,af,gd⟩ fr hp⟩::D) (putO fr dst v) (app up hp) (some (p,pp,upp,vp)) k))
   (fun v up=>none)
   (fun _=>none)):=by
 conv=>lhs;unfold dl
 simp only [deadL,Option.isNone_some,Bool.false_and,gck]
theorem gck_nil{x:Option R}:gck (keysL2 nx i pre []) x=x:=rfl
theorem keysL2_own{o:Obj'}:keysL2 nx i pre [(nx+64*i,o)]=true:=by
 have e:(nx+64*i-nx) / 64=i:=by omega
 simp only [keysL2,e,Nat.beq_refl,Bool.or_true,Bool.true_or,Bool.and_true]
theorem gck_own{x:Option R}{o:Obj'}:gck (keysL2 nx i pre [(nx+64*i,o)]) x=x:=by
 rw [keysL2_own]
 rfl
theorem keysL2_nil:keysL2 nx i pre []=true:=rfl
theorem keysL2_cons{b:Nat}{o:Obj'}{r:Hp}:keysL2 nx i pre ((b,o)::r)=(sel (decide (b<nx)) true (sel (decide ((b-nx) / 64=i)) true (hasN ((b-nx) / 64) pre))&&keysL2 nx i pre r):=by
 simp only [keysL2]
 congr 1
 have e1:Nat.blt b nx=decide (b<nx):=by
  by_cases h:b<nx
  ·rw [show Nat.blt b nx=true from Nat.ble_eq_true_of_le h];simp [h]
  ·cases hb:Nat.blt b nx with
   | true=>exact absurd (Nat.le_of_ble_eq_true hb) h
   | false=>simp [h]
 have e2:Nat.beq ((b-nx) / 64) i=decide ((b-nx) / 64=i):=by
  by_cases h:(b-nx) / 64=i
  ·rw [h];simp
  ·cases hb:Nat.beq ((b-nx) / 64) i with
   | true=>exact absurd (Nat.eq_of_beq_eq_true hb) h
   | false=>simp [h]
 rw [e1,e2]
 cases decide (b<nx)<;>cases decide ((b-nx) / 64=i)<;>rfl
theorem hasN_nil{b:Nat}:hasN b []=false:=rfl
theorem hasN_cons{b c:Nat}{r:List Nat}:hasN b (c::r)=if b=c then true else hasN b r:=by
 conv=>lhs;unfold hasN
 by_cases h:b=c
 ·subst h;simp
 ·rw [if_neg h]
  cases hb:Nat.beq b c with
  | true=>exact absurd (Nat.eq_of_beq_eq_true hb) h
  | false=>rfl
theorem hasK_nil{b:Nat}:hasK b []=false:=rfl
theorem hasK_cons{b c:Nat}{o:Obj'}{r:Hp}:hasK b ((c,o)::r)=if b=c then true else hasK b r:=by
 conv=>lhs;unfold hasK
 by_cases h:b=c
 ·subst h;simp
 ·rw [if_neg h]
  cases hb:Nat.beq b c with
  | true=>exact absurd (Nat.eq_of_beq_eq_true hb) h
  | false=>rfl
theorem apL_nil{r:Rec}:apL r D []=true:=rfl
theorem apL_cons{r:Rec}{j:Nat}{c:List Nat}:apL r D (j::c)=(apJ r (findR j D)&&apL r D c):=rfl
theorem findR_cons{j i' p':Nat}{d':Option Nat}{v':AV}{u':Hp}{l' r':List Nat}:findR j (⟨i',p',d',v',u',l',r'⟩::D)=if j=i' then some ⟨i',p',d',v',u',l',r'⟩ else findR j D:=by
 conv=>lhs;unfold findR
 by_cases h:j=i'
 ·subst h;simp
 ·rw [if_neg h]
  cases hb:Nat.beq j i' with
  | true=>exact absurd (Nat.eq_of_beq_eq_true hb) h
  | false=>rfl
theorem apJ_some{r q:Rec}:apJ r (some q)=apartK r q:=rfl
theorem apJ_congr{r:Rec}{o o':Option Rec}(h:o=o'):apJ r o=apJ r o':=by rw [h]
theorem apartK_mk{i1 p1 i2 p2:Nat}{d1 d2:Option Nat}{v1 v2:AV}{u1 u2:Hp}{l1 l2 r1 r2:List Nat}:apartK ⟨i1,p1,d1,v1,u1,l1,r1⟩ ⟨i2,p2,d2,v2,u2,l2,r2⟩=apU u1 u2 r1 r2:=rfl
end
section
theorem apU_nn{r1 r2:List Nat}:apU [] [] r1 r2=true:=rfl
theorem apU_nc{r1 r2:List Nat}{b:Nat}{o:Obj'}{u:Hp}:apU [] ((b,o)::u) r1 r2=(!hasN b r1&&apU [] u r1 r2):=by
 simp [apU,hasK]
theorem apU_cn{r1 r2:List Nat}{b:Nat}{o:Obj'}{u:Hp}:apU ((b,o)::u) [] r1 r2=(!hasN b r2&&apU u [] r1 r2):=by
 simp [apU]
theorem apU_cc{r1 r2:List Nat}{b c:Nat}{o o':Obj'}{u u':Hp}:apU ((b,o)::u) ((c,o')::u') r1 r2=(!hasN c r1&&(!hasK c ((b,o)::u)&&(apU ((b,o)::u) u' r1 r2))):=by
 simp only [apU,List.all_cons]
 cases hasN c r1<;>cases hasK c ((b,o)::u)<;>simp
theorem maskOf_nil{fr:Fr}:maskOf fr []=fr:=rfl
theorem maskOf_some{fr:Fr}{D:List Rec}{i p d:Nat}{v:AV}{u:Hp}{l r:List Nat}:maskOf fr (⟨i,p,some d,v,u,l,r⟩::D)=(d,.undef)::maskOf fr D:=rfl
theorem maskOf_none{fr:Fr}{D:List Rec}{i p:Nat}{v:AV}{u:Hp}{l r:List Nat}:maskOf fr (⟨i,p,none,v,u,l,r⟩::D)=maskOf fr D:=rfl
theorem hpL_nil{pre:List Nat}{hp:Hp}:hpL pre hp []=hp:=rfl
theorem hpL_cons0{pre:List Nat}{hp:Hp}{D:List Rec}{i p:Nat}{d:Option Nat}{v:AV}{l r:List Nat}:hpL pre hp (⟨i,p,d,v,[],l,r⟩::D)=hpL pre hp D:=by
 simp only [hpL]
 cases hasN i pre<;>rfl
theorem hpL_cons1{pre:List Nat}{hp:Hp}{D:List Rec}{i p:Nat}{d:Option Nat}{v:AV}{l r:List Nat}{q:Nat×Obj'}{u:Hp}:hpL pre hp (⟨i,p,d,v,q::u,l,r⟩::D)=sel (hasN i pre) (app (q::u) (hpL pre hp D)) (hpL pre hp D):=rfl
theorem besL_nil{pre:List Nat}{hpP:Hp}:besL pre hpP []=true:=rfl
theorem besL_cons0{pre:List Nat}{hpP:Hp}{D:List Rec}{i p:Nat}{d:Option Nat}{v:AV}{l r:List Nat}:besL pre hpP (⟨i,p,d,v,[],l,r⟩::D)=besL pre hpP D:=by
 simp only [besL]
 cases hasN i pre<;>rfl
theorem besL_cons1{pre:List Nat}{hpP:Hp}{D:List Rec}{i p:Nat}{d:Option Nat}{v:AV}{l r:List Nat}{q:Nat×Obj'}{u:Hp}:besL pre hpP (⟨i,p,d,v,q::u,l,r⟩::D)=(sel (hasN i pre) true ((q::u).all fun q=>(look q.1 hpP).isNone)&&besL pre hpP D):=rfl
theorem app_nil{hp:Hp}:app [] hp=hp:=rfl
theorem app_cons{q:Nat×Obj'}{u hp:Hp}:app (q::u) hp=q::app u hp:=rfl
variable {R : Type} {nx n i d : Nat} {ops : Array Oper} {fr0 fr : Fr} {hp0 hp : Hp} {df : Df} {rest : List Oper} {tab : Tab} {D : List Rec} {k : K R} {v : AV} {q q' : Nat × Obj'} {pan : Option (Nat × List Nat × Hp × AV)}
theorem rl_nil:rl nx ops [] i fr hp df k=k .normal ⟨fr,hp,nx+64*ops.size,df⟩:=by unfold rl;rfl
theorem rl_cons{dst:Option Nat}{op:Op}{ty:TypeId}{pos:String}{af:Array Edge}{gd:Option (Nat×Bool)}:rl nx ops (⟨dst,op,ty,pos,af,gd⟩::rest) i fr hp df k =
  stp (nx+64*i) ops ⟨dst,op,ty,pos,af,gd⟩ fr hp (fun v up=>rl nx ops rest (i+1) (putO fr dst v) (app up hp) df k) (fun v up=>k (.pan v) ⟨fr,app up hp,nx+64*ops.size,df⟩) (fun q=>rl nx ops rest (i+1) (putO fr dst (.tup [])) hp (q::df) k):=by
 conv=>lhs;unfold rl
theorem rl_ps:rl nx ops rest i (putO fr (some d) v) (app [] hp) df k=rl nx ops rest i ((d,v)::fr) hp df k:=rfl
theorem rl_pn:rl nx ops rest i (putO fr none v) (app [] hp) df k=rl nx ops rest i fr hp df k:=rfl
theorem rl_ps1:rl nx ops rest i (putO fr (some d) v) (app [q] hp) df k=rl nx ops rest i ((d,v)::fr) (q::hp) df k:=rfl
theorem rl_pn1:rl nx ops rest i (putO fr none v) (app [q] hp) df k=rl nx ops rest i fr (q::hp) df k:=rfl
theorem rl_ps2:rl nx ops rest i (putO fr (some d) v) (app [q,q'] hp) df k=rl nx ops rest i ((d,v)::fr) (q::q'::hp) df k:=rfl
theorem rl_pn2:rl nx ops rest i (putO fr none v) (app [q,q'] hp) df k=rl nx ops rest i fr (q::q'::hp) df k:=rfl
theorem rl_ps3{q'':Nat×Obj'}{u:Hp}:rl nx ops rest i (putO fr (some d) v) (app (q::q'::q''::u) hp) df k=rl nx ops rest i ((d,v)::fr) (q::q'::q''::app u hp) df k:=rfl
theorem rl_pn3{q'':Nat×Obj'}{u:Hp}:rl nx ops rest i (putO fr none v) (app (q::q'::q''::u) hp) df k=rl nx ops rest i fr (q::q'::q''::app u hp) df k:=rfl
theorem rl_dfs{q:Nat×List AV}{df:Df}:rl nx ops rest i (putO fr (some d) v) hp (q::df) k=rl nx ops rest i ((d,v)::fr) hp (q::df) k:=rfl
theorem rl_dfn{q:Nat×List AV}{df:Df}:rl nx ops rest i (putO fr none v) hp (q::df) k=rl nx ops rest i fr hp (q::df) k:=rfl
theorem dl_ps:dl nx n ops fr0 hp0 df rest i tab D (putO fr (some d) v) (app [] hp) pan k=dl nx n ops fr0 hp0 df rest i tab D ((d,v)::fr) hp pan k:=rfl
theorem dl_pn:dl nx n ops fr0 hp0 df rest i tab D (putO fr none v) (app [] hp) pan k=dl nx n ops fr0 hp0 df rest i tab D fr hp pan k:=rfl
theorem dl_ps1:dl nx n ops fr0 hp0 df rest i tab D (putO fr (some d) v) (app [q] hp) pan k=dl nx n ops fr0 hp0 df rest i tab D ((d,v)::fr) (q::hp) pan k:=rfl
theorem dl_pn1:dl nx n ops fr0 hp0 df rest i tab D (putO fr none v) (app [q] hp) pan k=dl nx n ops fr0 hp0 df rest i tab D fr (q::hp) pan k:=rfl
theorem dl_ps2:dl nx n ops fr0 hp0 df rest i tab D (putO fr (some d) v) (app [q,q'] hp) pan k=dl nx n ops fr0 hp0 df rest i tab D ((d,v)::fr) (q::q'::hp) pan k:=rfl
theorem dl_pn2:dl nx n ops fr0 hp0 df rest i tab D (putO fr none v) (app [q,q'] hp) pan k=dl nx n ops fr0 hp0 df rest i tab D fr (q::q'::hp) pan k:=rfl
theorem dl_ps3{q'':Nat×Obj'}{u:Hp}:dl nx n ops fr0 hp0 df rest i tab D (putO fr (some d) v) (app (q::q'::q''::u) hp) pan k=dl nx n ops fr0 hp0 df rest i tab D ((d,v)::fr) (q::q'::q''::app u hp) pan k:=rfl
theorem dl_pn3{q'':Nat×Obj'}{u:Hp}:dl nx n ops fr0 hp0 df rest i tab D (putO fr none v) (app (q::q'::q''::u) hp) pan k=dl nx n ops fr0 hp0 df rest i tab D fr (q::q'::q''::app u hp) pan k:=rfl
end
end Go.Proofs.YtdhcgankmhpgeaaGreat.M
