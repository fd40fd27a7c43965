import Derived.Test.YtdhcgankmhpgeaaGreatB00
import Derived.LoopN
set_option linter.all false
namespace Go.Proofs.YtdhcgankmhpgeaaGreat.M
open Go
mutual
def keysAV:AV→List Nat
 | .ptr b _ | .rp b _ _ | .row b _ _ | .mp b=>[b]
 | .fn _ cs | .agg cs | .tup cs=>keysL cs
 | .ifc _ v=>keysAV v
 | _=>[]
def keysL:List AV→List Nat
 | []=>[]
 | x::xs=>keysAV x++keysL xs
end
mutual
def ren(ρ:Nat→Option Nat):AV→Option AV
 | .ptr b o=>(ρ b).map fun b => .ptr b o
 | .rp b i o=>(ρ b).map fun b => .rp b i o
 | .row b o n=>(ρ b).map fun b => .row b o n
 | .mp b=>(ρ b).map .mp
 | .fn f cs=>(renL ρ cs).map (.fn f)
 | .agg cs=>(renL ρ cs).map .agg
 | .tup cs=>(renL ρ cs).map .tup
 | .ifc t v=>(ren ρ v).map (.ifc t)
 | x=>some x
def renL(ρ:Nat→Option Nat):List AV→Option (List AV)
 | []=>some []
 | x::xs=>match ren ρ x,renL ρ xs with
   | some y,some ys=>some (y::ys)
   | _,_=>none
end
def keysE:List (List AV)→List Nat
 | []=>[]
 | e::es=>keysL e++keysE es
def renE(ρ:Nat→Option Nat):List (List AV)→Option (List (List AV))
 | []=>some []
 | e::es=>match renL ρ e,renE ρ es with
   | some y,some ys=>some (y::ys)
   | _,_=>none
def keysM:List (List UInt8×AV)→List Nat
 | []=>[]
 | (_,x)::es=>keysAV x++keysM es
def renM(ρ:Nat→Option Nat):List (List UInt8×AV)→Option (List (List UInt8×AV))
 | []=>some []
 | (s,x)::es=>match ren ρ x,renM ρ es with
   | some y,some ys=>some ((s,y)::ys)
   | _,_=>none
def keysO:Obj'→List Nat
 | .var _ cs=>keysL cs
 | .arr _ _ es=>keysE es
 | .mapo es=>keysM es
 | .dead=>[]
def renO(ρ:Nat→Option Nat):Obj'→Option Obj'
 | .var T cs=>(renL ρ cs).map (.var T)
 | .arr T sz es=>(renE ρ es).map (.arr T sz)
 | .mapo es=>(renM ρ es).map .mapo
 | .dead=>some .dead
def reach(hp:Hp):Nat→List Nat→List Nat→List Nat
 | 0,_,seen=>seen
 | _+1,[],seen=>seen
 | n+1,b::todo,seen=>if seen.any (Nat.beq b) then reach hp n todo seen else match look b hp with
   | some o=>reach hp n (keysO o++todo) (seen++[b])
   | none=>reach hp n todo (seen++[b])
def idx(b:Nat):List Nat→Nat→Option Nat
 | [],_=>none
 | c::r,i=>if Nat.beq b c then some i else idx b r (i+1)
def objsOf(hp:Hp)(ρ:Nat→Option Nat):List Nat→Option (List Obj')
 | []=>some []
 | b::r=>match (look b hp).bind (renO ρ),objsOf hp ρ r with
   | some o,some l=>some (o::l)
   | _,_=>none
def back(keys:List Nat)(base:Nat)(i:Nat):Option Nat :=
 if i<keys.length then keys[i]? else if i-keys.length<64 then some (base+(i-keys.length)) else none
def upsOf(keys:List Nat)(base:Nat):Nat→List Obj'→Option Hp
 | _,[]=>some []
 | i,o::r=>match back keys base i,renO (back keys base) o,upsOf keys base (i+1) r with
   | some b,some o,some l=>some ((b,o)::l)
   | _,_,_=>none
abbrev CallF:=Nat→List AV→List Obj'→Option (AE×List Obj')
def callD(call:CallF)(base f:Nat)(args:List AV)(hp:Hp):Option (AE×Hp) :=
 let keys:=reach hp 200 (keysL args) []
 match renL (fun b=>idx b keys 0) args,objsOf hp (fun b=>idx b keys 0) keys with
 | some args',some objs=>match call f args' objs with
   | some (.ret r,objs')=>match ren (back keys base) r,upsOf keys base 0 objs' with
     | some v,some up=>if keys.length≤objs'.length then some (.ret v,up) else none
     | _,_=>none
   | some (.pan r,objs')=>match ren (back keys base) r,upsOf keys base 0 objs' with
     | some v,some up=>if keys.length≤objs'.length then some (.pan v,up) else none
     | _,_=>none
   | none=>none
 | _,_=>none
abbrev Df:=List (Nat×List AV)
inductive RR where
 | ok (fr:Fr) (hp:Hp) (df:Df)
 | pan (fr:Fr) (hp:Hp) (df:Df) (v:AV)
def wantD(ops:Array Oper)(o:Oper)(fr:Fr):Option Bool :=
 match o.guard with
 | none=>some true
 | some (j,want)=>match (ops[j]?).bind (·.dst) with
   | some t=>match look t fr with
     | some (.bool b)=>some (b==want)
     | some (.tup [])=>some false
     | _=>none
   | none=>none
def putF(nt:Nat)(fr:Fr)(dst:Option Nat)(v:AV):Option Fr :=
 match dst with
 | none=>some fr
 | some t=>if Nat.blt t nt then some ((t,v)::fr) else none
def stepR(G:Gl)(call:CallF)(nt base:Nat)(ops:Array Oper)(o:Oper)(fr:Fr)(hp:Hp)(df:Df):Option RR :=
 match wantD ops o fr with
 | none=>none
 | some false=>(putF nt fr o.dst (.tup [])).map fun fr => .ok fr hp df
 | some true=>match o.op with
   | .call { callee := .value f,args,.. }=>match opv fr f,argsD fr args.toList with
     | some (.fn g caps),some l=>match callD call base g (l++caps) hp with
       | some (.ret v,up)=>(putF nt fr o.dst v).map fun fr => .ok fr (up++hp) df
       | some (.pan v,up)=>some (.pan fr (up++hp) df v)
       | none=>none
     | _,_=>none
   | .defer { callee := .value f,args,.. }=>match opv fr f,argsD fr args.toList with
     | some (.fn g caps),some l=>(putF nt fr o.dst (.tup [])).map fun fr => .ok fr hp ((g,l++caps)::df)
     | _,_=>none
   | .panic x=>match opv fr x with
     | some (.ifc t v)=>some (.pan fr hp df (.ifc t v))
     | _=>none
   | _=>match opD G base o fr hp with
     | some (v,up)=>if up.all fun q=>Nat.beq q.1 base||(look q.1 hp).isSome then (putF nt fr o.dst v).map fun fr => .ok fr (up++hp) df else none
     | none=>none
def runR(G:Gl)(call:CallF)(nt nx:Nat)(ops:Array Oper):List Nat→Fr→Hp→Df→Option RR
 | [],fr,hp,df=>some (.ok fr hp df)
 | i::rest,fr,hp,df=>match ops[i]? with
   | none=>none
   | some o=>match stepR G call nt (nx+64*i) ops o fr hp df with
     | some (.ok fr hp df)=>runR G call nt nx ops rest fr hp df
     | r=>r
inductive AX where
 | normal
 | exit (id:Nat)
 | ret
 | pan (v:AV)
structure St where
 fr:Fr
 hp:Hp
 nx:Nat
 df:Df
def loopIt{R:Type}(body:St→(AX→St→Option R)→Option R):Nat→St→(AX→St→Option R)→Option R
 | 0,_,_=>none
 | n+1,st,k=>body st fun e st'=>match e with
   | .normal=>loopIt body n st' k
   | e=>k e st'
structure Env where
 G:Gl
 call:CallF
 nt:Nat
 fuel:Nat
 drawR:Nat→Array Oper→Fr→Hp→Df→Option RR
def exec{R:Type}(E:Env):Code→St→(AX→St→Option R)→Option R
 | .skip,st,k=>k .normal st
 | .label _,st,k=>k .normal st
 | .region id ops draw,st,k =>
   match (if draw then E.drawR st.nx ops st.fr st.hp st.df else runR E.G E.call E.nt st.nx ops (List.range ops.size) st.fr st.hp st.df) with
   | some (.ok fr hp df)=>k .normal ⟨fr,hp,st.nx+64*ops.size,df⟩
   | some (.pan fr hp df v)=>k (.pan v) ⟨fr,hp,st.nx+64*ops.size,df⟩
   | none=>none
 | .seq a b,st,k=>exec E a st fun e st'=>match e with
   | .normal=>exec E b st' k
   | e=>k e st'
 | .cond c x y,st,k=>match opv st.fr c with
   | some (.bool t)=>if t then exec E x st k else exec E y st k
   | _=>none
 | .block id c,st,k=>exec E c st fun e st'=>match e with
   | .exit j=>if Nat.beq j id then k .normal st' else k (.exit j) st'
   | e=>k e st'
 | .loop c,st,k=>loopIt (fun st k=>exec E c st k) E.fuel st k
 | .exit j,st,k=>k (.exit j) st
 | .ret,st,k=>k .ret st
 | _,_,_=>none
def resV(G:Gl)(st:St):List ResultVar→Option (List AV)
 | []=>some []
 | .tmp t::r=>match look t st.fr,resV G st r with
   | some v,some l=>some (v::l)
   | _,_=>none
 | .cell t T::r=>match (look t st.fr).bind (loadD G st.hp T),resV G st r with
   | some v,some l=>some (v::l)
   | _,_=>none
def packV:List AV→AV
 | [x]=>x
 | l => .tup l
def leave(k:Nat)(hp:Hp)(r:AV):Option (AV×List Obj') :=
 let keys:=reach hp 200 (List.range k++keysAV r) []
 if keys.take k==List.range k then
  match ren (fun b=>idx b keys 0) r,objsOf hp (fun b=>idx b keys 0) keys with
  | some r',some objs=>some (r',objs)
  | _,_=>none
 else none
def numbered{α:Type}:Nat→List α→List (Nat×α)
 | _,[]=>[]
 | i,x::r=>(i,x)::numbered (i+1) r
def door(G:Gl)(catchF:Nat)(errT:Nat)(e:AX)(st:St):Option (Option AV×St) :=
 match st.df,e with
 | [],.normal=>some (none,st)
 | [],.ret=>some (none,st)
 | [],.pan v=>some (some v,st)
 | [(f,[p])],e=>if Nat.beq f catchF then match e with
     | .normal=>some (none,{ st with df:=[] })
     | .ret=>some (none,{ st with df:=[] })
     | .pan (.ifc t (.int k n))=>if Nat.beq t errT then (storeD G st.hp errT p (.int k n)).map fun up=>(none,{ st with hp:=up++st.hp,df:=[] }) else none
     | _=>none
  else none
 | _,_=>none
def finish(G:Gl)(catchF errT:Nat)(F:Func)(k:Nat)(e:AX)(st:St):Option (AE×List Obj') :=
 match door G catchF errT e st with
 | some (none,st)=>match resV G st F.results.toList with
   | some l=>(leave k st.hp (packV l)).map fun q=>(.ret q.1,q.2)
   | none=>none
 | some (some v,st)=>(leave k st.hp v).map fun q=>(.pan q.1,q.2)
 | none=>none
structure Cfg where
 G:Gl
 catchF:Nat
 errT:Nat
 fuel:Nat
 drawR:CallF→Nat→Nat→Array Oper→Fr→Hp→Df→Option RR
section
variable {G : Gl} {P : Program} {w w' : World} {I I' : Nat → Prop} {pl pl2 : Plan} {hp : Hp} {ρ : Nat → Option Nat}
def Carries(ρ:Nat→Option Nat)(pl pl2:Plan):Prop:=∀ b b' p,ρ b=some b'→pl b=some p→pl2 b'=some p
mutual
theorem ren_ok(hρ:Carries ρ pl pl2):∀(x:AV){y:AV}{v:Value},ren ρ x=some y→Rep w I pl x v→Rep w I pl2 y v
 | .int _ _,y,v,h,hx=>by simp only [ren,Option.some.injEq] at h;subst h;simpa only [Rep] using hx
 | .bool _,y,v,h,hx=>by simp only [ren,Option.some.injEq] at h;subst h;simpa only [Rep] using hx
 | .str _,y,v,h,hx=>by simp only [ren,Option.some.injEq] at h;subst h;simpa only [Rep] using hx
 | .sl _ _,y,v,h,hx=>by simp only [ren,Option.some.injEq] at h;subst h;simpa only [Rep] using hx
 | .nils,y,v,h,hx=>by simp only [ren,Option.some.injEq] at h;subst h;simpa only [Rep] using hx
 | .nilp,y,v,h,hx=>by simp only [ren,Option.some.injEq] at h;subst h;simpa only [Rep] using hx
 | .nilfn,y,v,h,hx=>by simp only [ren,Option.some.injEq] at h;subst h;simpa only [Rep] using hx
 | .nilif,y,v,h,hx=>by simp only [ren,Option.some.injEq] at h;subst h;simpa only [Rep] using hx
 | .nilm,y,v,h,hx=>by simp only [ren,Option.some.injEq] at h;subst h;simpa only [Rep] using hx
 | .ep _,y,v,h,hx=>by simp only [ren,Option.some.injEq] at h;subst h;simpa only [Rep] using hx
 | .undef,y,v,h,hx=>by simp only [ren,Option.some.injEq] at h;subst h;simp only [Rep]
 | .ptr b o,y,v,h,hx=>by
   simp only [ren,Option.map_eq_some_iff] at h
   obtain⟨b',h1,rfl⟩:=h
   simp only [Rep] at hx ⊢
   obtain⟨g,sz,cap,h2,rfl⟩:=hx
   exact⟨g,sz,cap,hρ _ _ _ h1 h2,rfl⟩
 | .rp b i o,y,v,h,hx=>by
   simp only [ren,Option.map_eq_some_iff] at h
   obtain⟨b',h1,rfl⟩:=h
   simp only [Rep] at hx ⊢
   obtain⟨g,sz,cap,h2,rfl⟩:=hx
   exact⟨g,sz,cap,hρ _ _ _ h1 h2,rfl⟩
 | .row b o n,y,v,h,hx=>by
   simp only [ren,Option.map_eq_some_iff] at h
   obtain⟨b',h1,rfl⟩:=h
   simp only [Rep] at hx ⊢
   rcases hx with ⟨h2,h3⟩|⟨g,sz,cap,h2,h3⟩
   ·exact .inl ⟨hρ _ _ _ h1 h2,h3⟩
   ·exact .inr ⟨g,sz,cap,hρ _ _ _ h1 h2,h3⟩
 | .mp b,y,v,h,hx=>by
   simp only [ren,Option.map_eq_some_iff] at h
   obtain⟨b',h1,rfl⟩:=h
   simp only [Rep] at hx ⊢
   obtain⟨g,sz,cap,h2,rfl⟩:=hx
   exact⟨g,sz,cap,hρ _ _ _ h1 h2,rfl⟩
 | .fn f cs,y,v,h,hx=>by
   simp only [ren,Option.map_eq_some_iff] at h
   obtain⟨cs',h1,rfl⟩:=h
   simp only [Rep] at hx ⊢
   obtain⟨vs,rfl,h2⟩:=hx
   exact⟨vs,rfl,renL_ok hρ cs h1 h2⟩
 | .agg cs,y,v,h,hx=>by
   simp only [ren,Option.map_eq_some_iff] at h
   obtain⟨cs',h1,rfl⟩:=h
   simp only [Rep] at hx ⊢
   obtain⟨vs,rfl,h2,h3⟩:=hx
   exact⟨vs,rfl,h2,renL_ok hρ cs h1 h3⟩
 | .tup cs,y,v,h,hx=>by
   simp only [ren,Option.map_eq_some_iff] at h
   obtain⟨cs',h1,rfl⟩:=h
   simp only [Rep] at hx ⊢
   obtain⟨vs,rfl,h2⟩:=hx
   exact⟨vs,rfl,renL_ok hρ cs h1 h2⟩
 | .ifc t x,y,v,h,hx=>by
   simp only [ren,Option.map_eq_some_iff] at h
   obtain⟨x',h1,rfl⟩:=h
   simp only [Rep] at hx ⊢
   obtain⟨u,rfl,h2⟩:=hx
   exact⟨u,rfl,ren_ok hρ x h1 h2⟩
theorem renL_ok(hρ:Carries ρ pl pl2):∀(xs:List AV){ys:List AV}{vs:List Value},renL ρ xs=some ys→RepL w I pl xs vs→RepL w I pl2 ys vs
 | [],ys,vs,h,hx=>by
   simp only [renL,Option.some.injEq] at h
   subst h
   simpa only [RepL] using hx
 | x::xs,ys,vs,h,hx=>by
   unfold renL at h
   split at h
   ·rename_i y ys' h1 h2
    injection h with h
    subst h
    simp only [RepL] at hx ⊢
    obtain⟨v,vs',rfl,k1,k2⟩:=hx
    exact⟨v,vs',rfl,ren_ok hρ x h1 k1,renL_ok hρ xs h2 k2⟩
   ·cases h
end
theorem renL_length:∀{xs ys:List AV},renL ρ xs=some ys→ys.length=xs.length
 | [],ys,h=>by simp only [renL,Option.some.injEq] at h;subst h;rfl
 | x::xs,ys,h=>by
   unfold renL at h
   split at h
   ·rename_i y ys' h1 h2
    injection h with h
    subst h
    simp [renL_length h2]
   ·cases h
theorem renL_append:∀{xs xs' ys ys':List AV},renL ρ xs=some ys→renL ρ xs'=some ys'→renL ρ (xs++xs')=some (ys++ys')
 | [],xs',ys,ys',h,h'=>by simp only [renL,Option.some.injEq] at h;subst h;simpa using h'
 | x::xs,xs',ys,ys',h,h'=>by
   unfold renL at h
   split at h
   ·rename_i y ys2 h1 h2
    injection h with h
    subst h
    have:=renL_append h2 h'
    simp only [List.cons_append,renL,h1,this]
   ·cases h
theorem renE_ok:∀{es es':List (List AV)},renE ρ es=some es'→es'.length=es.length∧renL ρ es.flatten=some es'.flatten∧∀ sz,(∀ e∈es,e.length=sz)→∀ e∈es',e.length=sz
 | [],es',h=>by
   simp only [renE,Option.some.injEq] at h
   subst h
   simp [renL]
 | e::es,es',h=>by
   unfold renE at h
   split at h
   ·rename_i y ys h1 h2
    injection h with h
    subst h
    obtain⟨k1,k2,k3⟩:=renE_ok h2
    refine⟨by simp [k1],by simpa using renL_append h1 k2,fun sz hs x hx=>?_⟩
    rcases List.mem_cons.1 hx with rfl|hx
    ·rw [renL_length h1]
     exact hs e (by simp)
    ·exact k3 sz (fun e he=>hs e (by simp [he])) x hx
   ·cases h
theorem renM_ok(hρ:Carries ρ pl pl2):∀{es es':List (List UInt8×AV)}{ms:List MapEntry},renM ρ es=some es'→RepMap w I pl es ms→RepMap w I pl2 es' ms
 | [],es',ms,h,hx=>by
   simp only [renM,Option.some.injEq] at h
   subst h
   simpa only [RepMap] using hx
 | (s,x)::es,es',ms,h,hx=>by
   unfold renM at h
   split at h
   ·rename_i y ys h1 h2
    injection h with h
    subst h
    simp only [RepMap] at hx ⊢
    obtain⟨e,ms',rfl,k1,k2,k3⟩:=hx
    exact⟨e,ms',rfl,k1,ren_ok hρ x h1 k2,renM_ok hρ h2 k3⟩
   ·cases h
theorem renO_ok(hρ:Carries ρ pl pl2){b b':Nat}{o o':Obj'}(h:renO ρ o=some o')(hb:∀ p,pl b=some p→pl2 b'=some p)(ho:ObjRep w I pl b o):ObjRep w I pl2 b' o'∧o'.live=o.live:=by
 cases o with
 | var T cs =>
   simp only [renO,Option.map_eq_some_iff] at h
   obtain⟨cs',h1,rfl⟩:=h
   obtain⟨g,sz,cap,vs,k1,k2,k3,k4⟩:=ho
   exact⟨⟨g,sz,cap,vs,hb _ k1,k2,k3,renL_ok hρ cs h1 k4⟩,rfl⟩
 | arr T sz es =>
   simp only [renO,Option.map_eq_some_iff] at h
   obtain⟨es',h1,rfl⟩:=h
   obtain⟨m1,m2,m3⟩:=renE_ok h1
   refine⟨?_,rfl⟩
   rcases ho with ⟨k1,rfl⟩|⟨g,cap,vs,k1,k2,k3,k4,k5,k6,k7,k8⟩
   ·simp only [renE,Option.some.injEq] at h1
    exact .inl ⟨hb _ k1,h1.symm⟩
   ·exact .inr ⟨g,cap,vs,hb _ k1,k2,by rw [m1];exact k3,k4,k5,m3 sz k6,by rw [m1];exact k7,by rw [m1];exact renL_ok hρ _ m2 k8⟩
 | mapo es =>
   simp only [renO,Option.map_eq_some_iff] at h
   obtain⟨es',h1,rfl⟩:=h
   obtain⟨g,sz,cap,ms,clock,k1,k2,k3⟩:=ho
   exact⟨⟨g,sz,cap,ms,clock,hb _ k1,k2,renM_ok hρ h1 k3⟩,rfl⟩
 | dead =>
   simp only [renO,Option.some.injEq] at h
   subst h
   exact⟨trivial,rfl⟩
theorem idx_some:∀{keys:List Nat}{i j b:Nat},idx b keys i=some j→i≤j∧keys[j-i]?=some b
 | [],i,j,b,h=>by cases h
 | c::r,i,j,b,h=>by
   unfold idx at h
   split at h
   ·rename_i hb
    injection h with h
    subst h
    have:=Nat.eq_of_beq_eq_true hb
    subst this
    simp
   ·obtain⟨h1,h2⟩:=idx_some h
    refine⟨by omega,?_⟩
    rw [show j-i=(j-(i+1))+1 by omega]
    simpa using h2
theorem look_numbered{α:Type}:∀(l:List α)(i b:Nat),look b (numbered i l)=if b<i then none else l[b-i]?
 | [],i,b=>by simp [numbered,look]
 | x::r,i,b=>by
   rw [numbered,look_cons,look_numbered r (i+1) b]
   by_cases h:b=i
   ·subst h;simp
   ·rw [if_neg h]
    by_cases h2:b<i
    ·rw [if_pos h2,if_pos (by omega)]
    ·rw [if_neg h2,if_neg (by omega),show b-i=(b-(i+1))+1 by omega]
     simp
theorem look_num{α:Type}(l:List α)(b:Nat):look b (numbered 0 l)=l[b]?:=by
 rw [look_numbered];simp
theorem nodup_snoc{seen:List Nat}{b:Nat}(h:seen.Nodup)(hb:¬ (seen.any (Nat.beq b))=true):(seen++[b]).Nodup:=by
 rw [List.nodup_append]
 refine⟨h,by simp,?_⟩
 intro x hx y hy
 rw [List.mem_singleton] at hy
 subst hy
 intro e
 subst e
 apply hb
 rw [List.any_eq_true]
 exact⟨x,hx,by simp⟩
theorem reach_nodup(hp:Hp):∀(n:Nat)(todo seen:List Nat),seen.Nodup→(reach hp n todo seen).Nodup
 | 0,_,seen,h=>by simpa [reach] using h
 | n+1,[],seen,h=>by simpa [reach] using h
 | n+1,b::todo,seen,h=>by
   unfold reach
   split
   ·exact reach_nodup hp n todo seen h
   ·rename_i hb
    split
    ·exact reach_nodup hp n _ _ (nodup_snoc h hb)
    ·exact reach_nodup hp n _ _ (nodup_snoc h hb)
theorem reach_mem(hp:Hp):∀(n:Nat)(todo seen:List Nat)(b:Nat),b∈seen→b∈reach hp n todo seen
 | 0,_,seen,b,h=>by simpa [reach] using h
 | n+1,[],seen,b,h=>by simpa [reach] using h
 | n+1,c::todo,seen,b,h=>by
   unfold reach
   split
   ·exact reach_mem hp n todo seen b h
   ·split
    ·exact reach_mem hp n _ _ b (by simp [h])
    ·exact reach_mem hp n _ _ b (by simp [h])
theorem reach_local{hp hp':Hp}:∀(n:Nat)(todo seen:List Nat),(∀ b∈reach hp n todo seen,look b hp'=look b hp)→reach hp' n todo seen=reach hp n todo seen
 | 0,_,seen,h=>by simp [reach]
 | n+1,[],seen,h=>by simp [reach]
 | n+1,c::todo,seen,h=>by
   unfold reach at h ⊢
   split
   ·rename_i hc
    rw [if_pos hc] at h
    exact reach_local n todo seen h
   ·rename_i hc
    rw [if_neg hc] at h
    have hl:look c hp'=look c hp:=by
     apply h
     split
     ·exact reach_mem hp n _ _ c (by simp)
     ·exact reach_mem hp n _ _ c (by simp)
    rw [hl]
    cases hk:look c hp with
    | some o =>
      simp only [hk] at h ⊢
      exact reach_local n _ _ h
    | none =>
      simp only [hk] at h ⊢
      exact reach_local n _ _ h
theorem objsOf_some:∀{keys:List Nat}{objs:List Obj'},objsOf hp ρ keys=some objs→objs.length=keys.length∧∀ i b:Nat,keys[i]?=some b→∃ o o',look b hp=some o∧renO ρ o=some o'∧objs[i]?=some o'
 | [],objs,h=>by
   simp only [objsOf,Option.some.injEq] at h
   subst h
   simp
 | c::r,objs,h=>by
   unfold objsOf at h
   split at h
   ·rename_i o' l h1 h2
    injection h with h
    subst h
    obtain⟨k1,k2⟩:=objsOf_some h2
    refine⟨by simp [k1],fun i b hb=>?_⟩
    cases i with
    | zero =>
      simp at hb
      subst hb
      cases hl:look c hp with
      | none=>simp [hl] at h1
      | some o =>
        simp [hl] at h1
        exact⟨o,o',rfl,h1,by simp⟩
    | succ i =>
      simpa using k2 i b (by simpa using hb)
   ·cases h
theorem upsOf_some{keys:List Nat}{base:Nat}:∀{objs:List Obj'}{i:Nat}{up:Hp},upsOf keys base i objs=some up →
  (∀ b o,look b up=some o→∃ (j:Nat) (oc:Obj'),objs[j]?=some oc∧back keys base (i+j)=some b∧renO (back keys base) oc=some o) ∧
  (∀(j:Nat) oc,objs[j]?=some oc→∃ b,back keys base (i+j)=some b∧(look b up).isSome=true)
 | [],i,up,h=>by
   simp only [upsOf,Option.some.injEq] at h
   subst h
   simp [look]
 | o::r,i,up,h=>by
   unfold upsOf at h
   split at h
   ·rename_i b o' l h1 h2 h3
    injection h with h
    subst h
    obtain⟨k1,k2⟩:=upsOf_some h3
    refine⟨fun c oc hc=>?_,fun j oc hj=>?_⟩
    ·rw [look_cons] at hc
     split at hc
     ·rename_i e
      subst e
      injection hc with hc
      subst hc
      exact⟨0,o,by simp,by simpa using h1,h2⟩
     ·obtain⟨j,oc',m1,m2,m3⟩:=k1 c oc hc
      exact⟨j+1,oc',by simpa using m1,by rwa [show i+(j+1)=i+1+j by omega],m3⟩
    ·cases j with
     | zero =>
       exact⟨b,by simpa using h1,by simp [look_cons]⟩
     | succ j =>
       obtain⟨c,m1,m2⟩:=k2 j oc (by simpa using hj)
       refine⟨c,by rwa [show i+(j+1)=i+1+j by omega],?_⟩
       rw [look_cons]
       split
       ·rfl
       ·exact m2
   ·cases h
end
def EndOK(w:World)(I:Nat→Prop)(pl:Plan):AE→Ending→Prop
 | .ret x,e=>∃ v,e = .returned v∧Rep w I pl x v
 | .pan x,e=>∃ v,e = .panicked [{ v,recovered:=false }]∧Rep w I pl x v
def Free(pl:Plan)(hp:Hp)(base:Nat):Prop:=∀ b,base≤b→b<base+64→pl b=none∧look b hp=none
def CallOK(P:Program)(w:World)(I:Nat→Prop)(pl:Plan)(hp:Hp)(f:Nat)(vs:List Value)(r:AE)(hp':Hp)(lo hi:Nat):Prop :=
 Calls P f vs.toArray w fun e w'=>∃ I' pl',Stp w I pl hp w' I' pl' hp'∧HR w' I' pl' hp'∧EndOK w' I' pl' r e∧∀ b,(b<lo∨hi≤b)→pl' b=pl b
def FnOK(P:Program)(call:CallF):Prop:=∀ f args objs r objs',call f args objs=some (r,objs') →
 (∃ fn,P.funcs[f]?=some fn∧fn.body.isNone=false∧(fn.name == "runtime.NumGoroutine")=false)∧∀ w I pl vs,HR w I pl (numbered 0 objs)→(∀ b,objs.length≤b→pl b=none)→RepL w I pl args vs →
  Calls P f vs.toArray w fun e w'=>∃ I' pl',Stp w I pl (numbered 0 objs) w' I' pl' (numbered 0 objs')∧HR w' I' pl' (numbered 0 objs')∧EndOK w' I' pl' r e∧∀ b,b<objs.length→pl' b=pl b
section
variable {G : Gl} {P : Program} {w w' : World} {I I' : Nat → Prop} {pl pl2 : Plan} {hp : Hp}
theorem callD_keys{call:CallF}{base f:Nat}{args:List AV}{r:AE}{up:Hp}(h:callD call base f args hp=some (r,up)) :
  ∀ b,¬ (base≤b∧b<base+64)→look b hp=none→look b (up++hp)=none:=by
 unfold callD at h
 simp only at h
 generalize hkeys:reach hp 200 (keysL args) []=keys at h
 split at h
 ·rename_i args' objs hargs hobjs
  obtain⟨ho1,ho2⟩:=objsOf_some hobjs
  have main:∀(objs':List Obj')(up:Hp),upsOf keys base 0 objs'=some up→∀ b,¬ (base≤b∧b<base+64)→look b hp=none→look b (up++hp)=none:=by
   intro objs' up hup b hb hn
   obtain⟨u1,u2⟩:=upsOf_some hup
   simp only [Nat.zero_add] at u1
   have:look b up=none:=by
    cases hu:look b up with
    | none=>rfl
    | some o =>
      exfalso
      obtain⟨j,oc,m1,m2,m3⟩:=u1 b o hu
      unfold back at m2
      split at m2
      ·obtain⟨o1,o2,k1,_⟩:=ho2 j b m2
       rw [hn] at k1
       cases k1
      ·split at m2
       ·injection m2 with m2
        exact hb (by omega)
       ·cases m2
   have e:∀(l m:Hp),look b l=none→look b (l++m)=look b m:=by
    intro l m
    induction l with
    | nil=>intro _;rfl
    | cons q l ih =>
      intro hl
      obtain⟨c,x⟩:=q
      rw [List.cons_append,look_cons]
      rw [look_cons] at hl
      split
      ·rename_i e;rw [if_pos e] at hl;cases hl
      ·rename_i e;rw [if_neg e] at hl;exact ih hl
   rw [e up hp this]
   exact hn
  split at h
  ·split at h
   ·rename_i v up' hv hup
    split at h
    ·injection h with h
     injection h with h1 h2
     subst h2
     exact main _ _ hup
    ·cases h
   ·cases h
  ·split at h
   ·rename_i v up' hv hup
    split at h
    ·injection h with h
     injection h with h1 h2
     subst h2
     exact main _ _ hup
    ·cases h
   ·cases h
  ·cases h
 ·cases h
theorem look_append{α:Type}(b:Nat):∀(l m:List (Nat×α)),look b (l++m)=match look b l with|some x=>some x|none=>look b m
 | [],m=>by simp [look]
 | (c,x)::l,m=>by
   rw [List.cons_append,look_cons,look_cons]
   split
   ·rfl
   ·exact look_append b l m
theorem callD_enter{call:CallF}(hc:FnOK P call){base f:Nat}{args:List AV}{r:AE}{up:Hp}(h:callD call base f args hp=some (r,up)) :
  ∃ fn,P.funcs[f]?=some fn∧fn.body.isNone=false∧(fn.name == "runtime.NumGoroutine")=false:=by
 unfold callD at h
 simp only at h
 split at h
 ·split at h
  ·rename_i hcall
   exact(hc _ _ _ _ _ hcall).1
  ·rename_i hcall
   exact(hc _ _ _ _ _ hcall).1
  ·cases h
 ·cases h
theorem call_ok{call:CallF}(hc:FnOK P call)(hr:HR w I pl hp){base f:Nat}(hfree:Free pl hp base){args:List AV}{vs:List Value}(ha:RepL w I pl args vs){r:AE}{up:Hp}(h:callD call base f args hp=some (r,up)) :
  CallOK P w I pl hp f vs r (up++hp) base (base+64):=by
 unfold callD at h
 simp only at h
 generalize hkeys:reach hp 200 (keysL args) []=keys at h
 have hnd:keys.Nodup:=by rw [← hkeys];exact reach_nodup hp _ _ _ (by simp)
 split at h
 ·rename_i args' objs hargs hobjs
  obtain⟨ho1,ho2⟩:=objsOf_some hobjs
  let plc:Plan:=fun i=>(keys[i]?).bind pl
  have hρ:Carries (fun b=>idx b keys 0) pl plc:=by
   intro b i p hb hp'
   obtain⟨_,h2⟩:=idx_some hb
   simp only [Nat.sub_zero] at h2
   simp only [plc,h2,Option.bind_some]
   exact hp'
  have hlk:∀ i oc,look i (numbered 0 objs)=some oc→∃ b o,keys[i]?=some b∧look b hp=some o∧renO (fun b=>idx b keys 0) o=some oc:=by
   intro i oc hi
   rw [look_num] at hi
   have hlt:i<keys.length:=by rw [← ho1];exact(List.getElem?_eq_some_iff.1 hi).1
   obtain⟨o,o',k1,k2,k3⟩:=ho2 i _ (List.getElem?_eq_getElem hlt)
   rw [hi] at k3
   injection k3 with k3
   exact⟨_,o,List.getElem?_eq_getElem hlt,k1,by rw [k2,k3]⟩
  have hcown:∀ g,Own (numbered 0 objs) plc g→∃ (i b:Nat) (o:Obj') (sz cap:Nat),keys[i]?=some b∧look b hp=some o∧o.live=true∧pl b=some (.blk g sz cap):=by
   rintro g ⟨i,oc,sz,cap,h1,h2,h3⟩
   obtain⟨b,o,k1,k2,k3⟩:=hlk i oc h1
   have hl:=(renO_ok (w:=w) (I:=I) (b:=b) (b':=i) hρ k3 (fun p hp'=>by simp only [plc,k1,Option.bind_some];exact hp') (hr.obj b o k2)).2
   simp only [plc,k1,Option.bind_some] at h3
   exact⟨i,b,o,sz,cap,k1,k2,by rw [← hl];exact h2,h3⟩
  have hcown':∀ g,Own (numbered 0 objs) plc g→Own hp pl g:=by
   intro g hg
   obtain⟨i,b,o,sz,cap,k1,k2,k3,k4⟩:=hcown g hg
   exact⟨b,o,sz,cap,k2,k3,k4⟩
  have hrc:HR w I plc (numbered 0 objs):=by
   refine⟨?_,?_,hr.imm,fun g hg=>hr.dis g (hcown' g hg),fun g hg=>hr.low g (hcown' g hg),hr.gv⟩
   ·intro i oc hi
    obtain⟨b,o,k1,k2,k3⟩:=hlk i oc hi
    exact(renO_ok (b:=b) (b':=i) hρ k3 (fun p hp'=>by simp only [plc,k1,Option.bind_some];exact hp') (hr.obj b o k2)).1
   ·intro i i' oc oc' g sz cap sz' cap' h1 h2 l1 l2 p1 p2
    obtain⟨b,o,k1,k2,k3⟩:=hlk i oc h1
    obtain⟨b',o',k1',k2',k3'⟩:=hlk i' oc' h2
    have hl:=(renO_ok (w:=w) (I:=I) (b:=b) (b':=i) hρ k3 (fun p hp'=>by simp only [plc,k1,Option.bind_some];exact hp') (hr.obj b o k2)).2
    have hl':=(renO_ok (w:=w) (I:=I) (b:=b') (b':=i') hρ k3' (fun p hp'=>by simp only [plc,k1',Option.bind_some];exact hp') (hr.obj b' o' k2')).2
    simp only [plc,k1,Option.bind_some] at p1
    simp only [plc,k1',Option.bind_some] at p2
    have e:=hr.inj b b' o o' g sz cap sz' cap' k2 k2' (by rw [← hl];exact l1) (by rw [← hl'];exact l2) p1 p2
    subst e
    obtain⟨hi,e1⟩:=List.getElem?_eq_some_iff.1 k1
    obtain⟨hi',e2⟩:=List.getElem?_eq_some_iff.1 k1'
    exact(List.getElem_inj hnd).1 (e1.trans e2.symm)
  have hplc:∀ b,objs.length≤b→plc b=none:=by
   intro b hb
   simp only [plc]
   rw [List.getElem?_eq_none (by omega)]
   rfl
  have hrep:=renL_ok hρ args hargs ha
  have main:∀(r0:AE)(objs':List Obj')(up:Hp)(rr:AE),call f args' objs=some (r0,objs')→upsOf keys base 0 objs'=some up→keys.length≤objs'.length →
    (∀ w' I' plc' pl' e,Carries (back keys base) plc' pl'→EndOK w' I' plc' r0 e→EndOK w' I' pl' rr e)→CallOK P w I pl hp f vs rr (up++hp) base (base+64):=by
   intro r0 objs' up rr hcall hup hle hend
   refine((hc f args' objs r0 objs' hcall).2 w I plc vs hrc hplc hrep).mono ?_
   rintro e w' ⟨I',plc',hs,hr',he,hwin⟩
   obtain⟨u1,u2⟩:=upsOf_some hup
   simp only [Nat.zero_add] at u1 u2
   let pl':Plan:=fun b=>if base≤b∧b<base+64 then plc' (keys.length+(b-base)) else pl b
   have keyout:∀ i b:Nat,keys[i]?=some b→¬ (base≤b∧b<base+64):=by
    intro i b hb hw
    obtain⟨o,o',k1,_⟩:=ho2 i b hb
    rw [(hfree b hw.1 hw.2).2] at k1
    cases k1
   have hback:∀ i b,back keys base i=some b→pl' b=plc' i:=by
    intro i b hb
    unfold back at hb
    split at hb
    ·rename_i hlt
     have hn:=keyout i b hb
     simp only [pl',if_neg hn]
     rw [hwin i (by omega)]
     simp only [plc,hb,Option.bind_some]
    ·rename_i hge
     split at hb
     ·rename_i h64
      injection hb with hb
      subst hb
      simp only [pl']
      rw [if_pos ⟨by omega,by omega⟩]
      congr 1
      omega
     ·cases hb
   have hcar:Carries (back keys base) plc' pl':=by
    intro i b p hb hp'
    rw [hback i b hb]
    exact hp'
   have hinj:∀ i j b,back keys base i=some b→back keys base j=some b→i=j:=by
    intro i j b hi hj
    unfold back at hi hj
    split at hi<;>split at hj
    ·rename_i h1 h2
     obtain⟨_,e1⟩:=List.getElem?_eq_some_iff.1 hi
     obtain⟨_,e2⟩:=List.getElem?_eq_some_iff.1 hj
     exact(List.getElem_inj hnd).1 (e1.trans e2.symm)
    ·split at hj
     ·injection hj with hj
      exact absurd ⟨by omega,by omega⟩ (keyout i b hi)
     ·cases hj
    ·split at hi
     ·injection hi with hi
      exact absurd ⟨by omega,by omega⟩ (keyout j b hj)
     ·cases hi
    ·split at hi<;>split at hj<;>first|(cases hi;done)|(cases hj;done)|skip
     injection hi with hi
     injection hj with hj
     omega
   have hple:pl.le pl':=by
    intro b p hb
    have hn:¬ (base≤b∧b<base+64):=by
     intro hw
     rw [(hfree b hw.1 hw.2).1] at hb
     cases hb
    simp only [pl',if_neg hn]
    exact hb
   have hlook:∀ b o,look b (up++hp)=some o→(∃ i oc,look i (numbered 0 objs')=some oc∧back keys base i=some b∧renO (back keys base) oc=some o∧ObjRep w' I' pl' b o∧o.live=oc.live)∨(look b hp=some o∧∀ i:Nat,keys[i]?≠some b):=by
    intro b o hb
    rw [look_append] at hb
    cases hu:look b up with
    | some o2 =>
      rw [hu] at hb
      injection hb with hb
      subst hb
      obtain⟨i,oc,m1,m2,m3⟩:=u1 b o2 hu
      have hli:look i (numbered 0 objs')=some oc:=by rw [look_num];exact m1
      have:=renO_ok (b:=i) (b':=b) hcar m3 (fun p hp'=>by rw [hback i b m2];exact hp') (hr'.obj i oc hli)
      exact .inl ⟨i,oc,hli,m2,m3,this.1,this.2⟩
    | none =>
      rw [hu] at hb
      refine .inr ⟨hb,fun i hi=>?_⟩
      have hlt:i<keys.length:=(List.getElem?_eq_some_iff.1 hi).1
      obtain⟨c,m1,m2⟩:=u2 i _ (List.getElem?_eq_getElem (by omega))
      have:back keys base i=some b:=by unfold back;rw [if_pos hlt];exact hi
      rw [this] at m1
      injection m1 with m1
      subst m1
      rw [hu] at m2
      cases m2
   have hkeep:∀ b o g sz cap,look b hp=some o→o.live=true→(∀ i:Nat,keys[i]?≠some b)→pl b=some (.blk g sz cap)→¬ Own (numbered 0 objs) plc g:=by
    intro b o g sz cap h1 h2 h3 h4 hown
    obtain⟨i,b',o',sz',cap',k1,k2,k3,k4⟩:=hcown g hown
    have:=hr.inj b b' o o' g sz cap sz' cap' h1 k2 h2 k3 h4 k4
    subst this
    exact h3 i k1
   have hplold:∀ b o,look b hp=some o→pl' b=pl b:=by
    intro b o hb
    have hn:¬ (base≤b∧b<base+64):=by
     intro hw
     rw [(hfree b hw.1 hw.2).2] at hb
     cases hb
    simp only [pl',if_neg hn]
   have hown2:∀ g,Own (up++hp) pl' g→Own (numbered 0 objs') plc' g∨(∃ b o sz cap,look b hp=some o∧o.live=true∧(∀ i:Nat,keys[i]?≠some b)∧pl b=some (.blk g sz cap)):=by
    rintro g ⟨b,o,sz,cap,h1,h2,h3⟩
    rcases hlook b o h1 with ⟨i,oc,m1,m2,m3,m4,m5⟩|⟨m1,m2⟩
    ·left
     rw [hback i b m2] at h3
     exact⟨i,oc,sz,cap,m1,by rw [← m5];exact h2,h3⟩
    ·right
     rw [hplold b o m1] at h3
     exact⟨b,o,sz,cap,m1,h2,m2,h3⟩
   have hkI:Keeps I w w':=hs.keeps hrc
   have hSt:Stp w I pl hp w' I' pl' (up++hp):=by
    refine⟨hs.size,fun k hk hn=>hs.keep k hk (fun ho=>hn (hcown' k ho)),hs.inc,hple,?_,?_,hs.os,hs.tape,hs.output⟩
    ·intro g hg
     rcases hown2 g hg with hg|⟨b,o,sz,cap,k1,k2,k3,k4⟩
     ·exact(hs.own g hg).imp (hcown' g) id
     ·exact .inl ⟨b,o,sz,cap,k1,k2,k4⟩
    ·intro g hg
     rcases hs.imm g hg with h|h|h
     ·exact .inl h
     ·exact .inr (.inl (hcown' g h))
     ·exact .inr (.inr h)
   refine⟨I',pl',hSt,?_,hend w' I' plc' pl' e hcar he,?_⟩
   ·refine⟨?_,?_,hr'.imm,?_,?_,hr'.gv⟩
    ·intro b o hb
     rcases hlook b o hb with ⟨i,oc,m1,m2,m3,m4,m5⟩|⟨m1,m2⟩
     ·exact m4
     ·by_cases hl:o.live=true
      ·refine(hr.obj b o m1).move (fun g sz cap hg=>?_) hkI hs.inc hple
       exact hs.keep g (hr.low g ⟨b,o,sz,cap,m1,hl,hg⟩) (hkeep b o g sz cap m1 hl m2 hg)
      ·cases o<;>simp [Obj'.live] at hl
       trivial
    ·intro b b' o o' g sz cap sz' cap' h1 h2 l1 l2 p1 p2
     have clash:∀{b b':Nat}{o o':Obj'}{sz cap sz' cap':Nat},(∃ i oc,look i (numbered 0 objs')=some oc∧back keys base i=some b∧renO (back keys base) oc=some o∧ObjRep w' I' pl' b o∧o.live=oc.live)→look b' hp=some o'→(∀ i:Nat,keys[i]?≠some b') →
       o.live=true→o'.live=true→pl' b=some (.blk g sz cap)→pl' b'=some (.blk g sz' cap')→False:=by
      rintro b b' o o' sz cap sz' cap' ⟨i,oc,m1,m2,m3,m4,m5⟩ k1 k2 l1 l2 p1 p2
      rw [hback i b m2] at p1
      rw [hplold b' o' k1] at p2
      rcases hs.own g ⟨i,oc,sz,cap,m1,by rw [← m5];exact l1,p1⟩ with h|h
      ·exact hkeep b' o' g sz' cap' k1 l2 k2 p2 h
      ·have:=hr.low g ⟨b',o',sz',cap',k1,l2,p2⟩
       omega
     rcases hlook b o h1 with c1|⟨c1,c1'⟩<;>rcases hlook b' o' h2 with c2|⟨c2,c2'⟩
     ·obtain⟨i,oc,m1,m2,m3,m4,m5⟩:=c1
      obtain⟨i',oc',n1,n2,n3,n4,n5⟩:=c2
      rw [hback i b m2] at p1
      rw [hback i' b' n2] at p2
      have:=hr'.inj i i' oc oc' g sz cap sz' cap' m1 n1 (by rw [← m5];exact l1) (by rw [← n5];exact l2) p1 p2
      subst this
      rw [m2] at n2
      injection n2
     ·exact(clash c1 c2 c2' l1 l2 p1 p2).elim
     ·exact(clash c2 c1 c1' l2 l1 p2 p1).elim
     ·rw [hplold b o c1] at p1
      rw [hplold b' o' c2] at p2
      exact hr.inj b b' o o' g sz cap sz' cap' c1 c2 l1 l2 p1 p2
    ·intro g hg hI
     rcases hown2 g hg with hg|⟨b,o,sz,cap,k1,k2,k3,k4⟩
     ·exact hr'.dis g hg hI
     ·have hlt:=hr.low g ⟨b,o,sz,cap,k1,k2,k4⟩
      rcases hs.imm g hI with h|h|h
      ·exact hr.dis g ⟨b,o,sz,cap,k1,k2,k4⟩ h
      ·exact hkeep b o g sz cap k1 k2 k3 k4 h
      ·omega
    ·intro g hg
     rcases hown2 g hg with hg|⟨b,o,sz,cap,k1,k2,k3,k4⟩
     ·exact hr'.low g hg
     ·exact Nat.lt_of_lt_of_le (hr.low g ⟨b,o,sz,cap,k1,k2,k4⟩) hs.size
   ·intro b hb
    simp only [pl']
    rw [if_neg (by omega)]
  split at h
  ·rename_i r0 objs' hcall
   split at h
   ·rename_i v up' hv hup
    split at h
    ·rename_i hle
     injection h with h
     injection h with h1 h2
     subst h1 h2
     refine main _ _ _ _ hcall hup hle ?_
     rintro w' I' plc' pl' e hcar ⟨u,rfl,hu⟩
     exact⟨u,rfl,ren_ok hcar _ hv hu⟩
    ·cases h
   ·cases h
  ·rename_i r0 objs' hcall
   split at h
   ·rename_i v up' hv hup
    split at h
    ·rename_i hle
     injection h with h
     injection h with h1 h2
     subst h1 h2
     refine main _ _ _ _ hcall hup hle ?_
     rintro w' I' plc' pl' e hcar ⟨u,rfl,hu⟩
     exact⟨u,rfl,ren_ok hcar _ hv hu⟩
    ·cases h
   ·cases h
  ·cases h
 ·cases h
end
structure Ctx where
 w:World
 I:Nat→Prop
 pl:Plan
 hp:Hp
 k:Nat
def DfOK(w:World)(I:Nat→Prop)(pl:Plan):Df→List Deferred→Prop
 | [],ds=>ds=[]
 | (g,args)::r,ds=>∃ d ds',ds=d::ds'∧(∃ caps vs:List Value,d.target = .fn (.func g) caps.toArray∧d.args=vs.toArray∧RepL w I pl args (vs++caps))∧DfOK w I pl r ds'
structure SR(c:Ctx)(nt:Nat)(fr:Fr)(hp:Hp)(df:Df)(a:Act)(w:World)(I:Nat→Prop)(pl:Plan):Prop where
 hr:HR w I pl hp
 fr:FR fr a.tmps w I pl
 sz:a.tmps.size=nt
 stp:Stp c.w c.I c.pl c.hp w I pl hp
 win:∀ b,b<c.k→pl b=c.pl b
 df:DfOK w I pl df a.defers
section
variable {G : Gl} {P : Program} {c : Ctx} {nt : Nat} {fr : Fr} {hp : Hp} {df : Df} {a : Act} {w w' : World} {I I' : Nat → Prop} {pl pl' : Plan}
theorem DfOK.mono(hk:Keeps I w w')(hi:∀ g,I g→I' g)(hp:pl.le pl'):∀(df:Df){ds:List Deferred},DfOK w I pl df ds→DfOK w' I' pl' df ds
 | [],ds,h=>by simpa only [DfOK] using h
 | (g,args)::r,ds,h=>by
   simp only [DfOK] at h ⊢
   obtain⟨d,ds',rfl,⟨caps,vs,h1,h2,h3⟩,h4⟩:=h
   exact⟨d,ds',rfl,⟨caps,vs,h1,h2,RepL.mono hk hi hp args h3⟩,DfOK.mono hk hi hp r h4⟩
theorem SR.ev(h:SR c nt fr hp df a w I pl):∀ x y,opv fr x=some y→Rep w I pl y (a.eval x):=by
 intro x y hx
 cases x with
 | tmp t =>
   obtain⟨v,h1,h2⟩:=h.fr t y hx
   have:a.eval (.tmp t)=v:=by
    simp [Act.eval,h1]
   rw [this]
   exact h2
 | const v=>exact rep_ofV hx
 | global g=>cases hx
 | func f =>
   simp only [opv,Option.some.injEq] at hx
   subst hx
   simp only [Rep,Act.eval]
   exact⟨[],rfl,by simp [RepL]⟩
theorem SR.put(h:SR c nt fr hp df a w I pl){hp':Hp}(hs:Stp w I pl hp w' I' pl' hp')(hr':HR w' I' pl' hp')(hw:∀ b,b<c.k→pl' b=pl b){dst:Option Nat}{x:AV}{fr':Fr}(hp2:putF nt fr dst x=some fr'){v:Value}(hx:Rep w' I' pl' x v) :
  SR c nt fr' hp' df (a.put dst v) w' I' pl':=by
 have hf:=hs.fr h.hr h.fr
 have hd:=DfOK.mono (hs.keeps h.hr) hs.inc hs.ple df h.df
 have hwin:∀ b,b<c.k→pl' b=c.pl b:=fun b hb=>(hw b hb).trans (h.win b hb)
 cases dst with
 | none =>
   simp only [putF,Option.some.injEq] at hp2
   subst hp2
   exact⟨hr',hf,h.sz,h.stp.trans hs,hwin,hd⟩
 | some t =>
   unfold putF at hp2
   simp only at hp2
   split at hp2
   ·rename_i hlt
    injection hp2 with hp2
    subst hp2
    have hlt':t<nt:=Nat.le_of_ble_eq_true hlt
    refine⟨hr',?_,by simp [Act.put,h.sz],h.stp.trans hs,hwin,hd⟩
    intro s y hy
    rw [look_cons] at hy
    simp only [Act.put]
    split at hy
    ·rename_i e
     subst e
     injection hy with hy
     subst hy
     exact⟨v,by simp [h.sz,hlt'],hx⟩
    ·rename_i e
     obtain⟨u,h1,h2⟩:=hf s y hy
     exact⟨u,by rw [Array.getElem?_setIfInBounds_ne (Ne.symm e)];exact h1,h2⟩
   ·cases hp2
def RegOK(c:Ctx)(nt:Nat)(r:RR)(e:Exit)(a:Act)(w:World)(hi:Nat):Prop :=
 match r with
 | .ok fr hp df=>e = .normal∧∃ I pl,SR c nt fr hp df a w I pl∧∀ b,hi≤b→pl b=none∧look b hp=none
 | .pan fr hp df v=>∃ u,e = .panic [{ v:=u,recovered:=false }]∧∃ I pl,SR c nt fr hp df a w I pl∧Rep w I pl v u∧∀ b,hi≤b→pl b=none∧look b hp=none
def StepOK(P:Program)(c:Ctx)(nt base:Nat)(hp:Hp)(pl:Plan)(ops:Array Oper)(o:Oper)(a:Act)(w:World)(r:RR)(K:Act→World→Prop)(Q:Exit→Act→World→Prop):Prop :=
 match r with
 | .ok fr' hp' df'=>(∀ a' w' I' pl',SR c nt fr' hp' df' a' w' I' pl'→(∀ b,(b<base∨base+64≤b)→pl' b=pl b∧(look b hp=none→look b hp'=none))→K a' w') →
   (if Region.wanted o (yielded ops a.tmps) then o.wp P a w K Q∨(o.asks P a w∧LetsOut Q) else K (a.put o.dst undef) w)
 | .pan fr' hp' df' v=>(∀ a' w' I' pl' u,SR c nt fr' hp' df' a' w' I' pl'→Rep w' I' pl' v u→(∀ b,(b<base∨base+64≤b)→pl' b=pl b∧(look b hp=none→look b hp'=none))→Q (.panic [{ v:=u,recovered:=false }]) a' w') →
   (if Region.wanted o (yielded ops a.tmps) then o.wp P a w K Q∨(o.asks P a w∧LetsOut Q) else K (a.put o.dst undef) w)
theorem want_ok(h:SR c nt fr hp df a w I pl){ops:Array Oper}{o:Oper}{t:Bool}(ht:wantD ops o fr=some t):Region.wanted o (yielded ops a.tmps)=t:=by
 unfold wantD at ht
 unfold Region.wanted
 cases hg:o.guard with
 | none =>
   simp only [hg] at ht ⊢
   injection ht
 | some q =>
   obtain⟨j,want⟩:=q
   simp only [hg] at ht ⊢
   split at ht
   ·rename_i s hs
    unfold yielded
    rw [hs]
    simp only [Option.bind_some]
    split at ht
    ·rename_i b hb
     injection ht with ht
     obtain⟨v,h1,h2⟩:=h.fr s _ hb
     simp only [Rep] at h2
     subst h2
     rw [h1]
     simp only
     rw [← ht]
     cases b<;>cases want<;>rfl
    ·rename_i hb
     injection ht with ht
     obtain⟨v,h1,h2⟩:=h.fr s _ hb
     simp only [Rep,RepL] at h2
     obtain⟨vs,rfl,rfl⟩:=h2
     rw [h1]
     simp only
     rw [← ht]
     cases want<;>rfl
    ·cases ht
   ·cases ht
theorem rep_undef(w:World)(I:Nat→Prop)(pl:Plan):Rep w I pl (.tup []) undef:=by
 simp only [Rep,RepL]
 exact⟨[],rfl,rfl⟩
theorem upkeys_ok{base:Nat}{up:Hp}(h:(up.all fun q=>Nat.beq q.1 base||(look q.1 hp).isSome)=true):∀ b,b≠base→look b hp=none→look b (up++hp)=none:=by
 intro b hb hn
 rw [look_append]
 have:look b up=none:=by
  cases hu:look b up with
  | none=>rfl
  | some o =>
    exfalso
    have key:∀(l:Hp),(l.all fun q=>Nat.beq q.1 base||(look q.1 hp).isSome)=true→∀ o,look b l=some o→False:=by
     intro l
     induction l with
     | nil=>intro _ o h;cases h
     | cons q l ih =>
       intro hl o ho
       simp only [List.all_cons,Bool.and_eq_true] at hl
       rw [look_cons] at ho
       split at ho
       ·rename_i e
        subst e
        rcases Bool.or_eq_true_iff.1 hl.1 with h1|h1
        ·exact hb (Nat.eq_of_beq_eq_true h1)
        ·rw [hn] at h1;cases h1
       ·exact ih hl.2 o ho
    exact key up h o hu
 rw [this]
 exact hn
theorem run_callee {g:Nat} {caps vs:List Value} {fn:Func} (hf:P.funcs[g]?=some fn) (hb:fn.body.isNone=false) (hn:(fn.name == "runtime.NumGoroutine")=false) {o:Oper} {ev:Operand→Value} {f:Operand} {args:Array Operand} {at':Array TypeId}
  (ho:o.op = .call { callee := .value f,args:=args,argTypes:=at' }) (hv:ev f = .func (.func g) #[] caps.toArray) (ha:args.toList.map ev=vs):(execOp ev o).run P w = .ok (.enter g (vs++caps).toArray) w:=by
 have e1:args.map ev=vs.toArray:=by apply Array.ext';simpa using ha
 simp only [execOp,ho,resolve,hv,e1,Deferred.ofValue,Sem.run_bind,Sem.run_pure,Result.andThen_ok,invoke,callFunc,run_program,hf,hn,hb]
 simp
theorem wp_value{o:Oper}{K:Act→World→Prop}{Q:Exit→Act→World→Prop}{res:Next}{v:Value}(h:(execOp a.eval o).run P w = .ok res w')(hv:res = .value v∨(res = .skip∧v=undef))(hk:K (a.put o.dst v) w'):o.wp P a w K Q:=by
 unfold Oper.wp
 rw [h]
 rcases hv with rfl|⟨rfl,rfl⟩<;>exact hk
set_option maxHeartbeats 1000000 in
theorem stepR_ok(hG:GOK G P){call:CallF}(hc:FnOK P call){base:Nat}{ops:Array Oper}{o:Oper}(h:SR c nt fr hp df a w I pl)(hfree:Free pl hp base)(hk:c.k≤base){r:RR}(hs:stepR G call nt base ops o fr hp df=some r)(K:Act→World→Prop)(Q:Exit→Act→World→Prop) :
  StepOK P c nt base hp pl ops o a w r K Q:=by
 have hev:=h.ev
 unfold stepR at hs
 split at hs
 ·cases hs
 ·rename_i hw
  have hw':=want_ok h hw
  cases hp2:putF nt fr o.dst (.tup []) with
  | none=>simp [hp2] at hs
  | some fr2 =>
    simp [hp2] at hs
    subst hs
    intro hK
    rw [if_neg (by rw [hw'];simp)]
    exact hK _ _ I pl (h.put (Stp.refl _ _ _ _) h.hr (fun _ _=>rfl) hp2 (rep_undef w I pl)) (fun _ _=>⟨rfl,fun h=>h⟩)
 ·rename_i hw
  have hw':=want_ok h hw
  split at hs
  ·rename_i f args at' hop
   split at hs
   ·rename_i g caps l hf hl
    have hfv:=hev _ _ hf
    simp only [Rep] at hfv
    obtain⟨cv,hfv,hcv⟩:=hfv
    have hlv:=args_ok hev _ hl
    have hrep:=repL_append hlv hcv
    split at hs
    ·rename_i v up hcall
     cases hp2:putF nt fr o.dst v with
     | none=>simp [hp2] at hs
     | some fr2 =>
       simp [hp2] at hs
       subst hs
       intro hK
       rw [if_pos hw']
       left
       obtain⟨fn,e1,e2,e3⟩:=callD_enter hc hcall
       have hrun:=run_callee (w:=w) e1 e2 e3 hop hfv rfl
       unfold Oper.wp
       rw [hrun]
       refine(call_ok hc h.hr hfree hrep hcall).mono ?_
       rintro e w' ⟨I',pl',k1,k2,⟨u,rfl,k3⟩,k4⟩
       refine hK _ _ I' pl' (h.put k1 k2 (fun b hb=>k4 b (.inl (by omega))) hp2 k3) (fun b hb=>⟨k4 b hb,fun hn=>callD_keys hcall b (by omega) hn⟩)
    ·rename_i v up hcall
     injection hs with hs
     subst hs
     intro hQ
     rw [if_pos hw']
     left
     obtain⟨fn,e1,e2,e3⟩:=callD_enter hc hcall
     have hrun:=run_callee (w:=w) e1 e2 e3 hop hfv rfl
     unfold Oper.wp
     rw [hrun]
     refine(call_ok hc h.hr hfree hrep hcall).mono ?_
     rintro e w' ⟨I',pl',k1,k2,⟨u,rfl,k3⟩,k4⟩
     have hput:=h.put (dst:=none) (x := .undef) (v:=undef) k1 k2 (fun b hb=>k4 b (.inl (by omega))) rfl (by simp only [Rep])
     refine hQ _ _ I' pl' u hput k3 (fun b hb=>⟨k4 b hb,fun hn=>callD_keys hcall b (by omega) hn⟩)
    ·cases hs
   ·cases hs
  ·rename_i f args at' hop
   split at hs
   ·rename_i g caps l hf hl
    have hfv:=hev _ _ hf
    simp only [Rep] at hfv
    obtain⟨cv,hfv,hcv⟩:=hfv
    have hlv:=args_ok hev _ hl
    have hrep:=repL_append hlv hcv
    cases hp2:putF nt fr o.dst (.tup []) with
    | none=>simp [hp2] at hs
    | some fr2 =>
      simp [hp2] at hs
      subst hs
      intro hK
      rw [if_pos hw']
      left
      have e1:args.map a.eval=(args.toList.map a.eval).toArray:=by apply Array.ext';simp
      have hrun:(execOp a.eval o).run P w = .ok (.defer { target := .fn (.func g) cv.toArray,args:=(args.toList.map a.eval).toArray }) w:=by
       simp only [execOp,hop,resolve,hfv,e1,Deferred.ofValue,Sem.run_bind,Sem.run_pure,Result.andThen_ok]
       simp
      unfold Oper.wp
      rw [hrun]
      have hput:=h.put (Stp.refl _ _ _ _) h.hr (fun _ _=>rfl) hp2 (rep_undef w I pl)
      have hd:SR c nt fr2 hp ((g,l++caps)::df) ({ a with defers:={ target := .fn (.func g) cv.toArray,args:=(args.toList.map a.eval).toArray }::a.defers }.put o.dst undef) w I pl:=by
       refine⟨hput.hr,?_,?_,hput.stp,hput.win,?_⟩
       ·have:=hput.fr
        cases hd:o.dst<;>simpa [Act.put,hd] using this
       ·have:=hput.sz
        cases hd:o.dst<;>simpa [Act.put,hd] using this
       ·have:({ a with defers:={ target := .fn (.func g) cv.toArray,args:=(args.toList.map a.eval).toArray }::a.defers }.put o.dst undef).defers={ target := .fn (.func g) cv.toArray,args:=(args.toList.map a.eval).toArray }::a.defers:=by
         cases o.dst<;>rfl
        rw [this]
        simp only [DfOK]
        exact⟨_,_,rfl,⟨cv,_,rfl,rfl,hrep⟩,h.df⟩
      exact hK _ _ I pl hd (fun _ _=>⟨rfl,fun h=>h⟩)
   ·cases hs
  ·rename_i x hop
   split at hs
   ·rename_i t v hx
    injection hs with hs
    subst hs
    intro hQ
    rw [if_pos hw']
    left
    have hxv:=hev _ _ hx
    have hxv0:=hxv
    simp only [Rep] at hxv
    obtain⟨u,hxv,hu⟩:=hxv
    have hrun:(execOp a.eval o).run P w = .halt (.panic (.iface t u)) w:=by
     simp [execOp,hop,hxv,Instr.panic]
    unfold Oper.wp
    rw [hrun]
    exact hQ _ _ I pl (.iface t u) h (by simp only [Rep];exact⟨u,rfl,hu⟩) (fun _ _=>⟨rfl,fun h=>h⟩)
   ·cases hs
  ·split at hs
   ·rename_i v up hop
    split at hs
    ·rename_i hall
     cases hp2:putF nt fr o.dst v with
     | none=>simp [hp2] at hs
     | some fr2 =>
       simp [hp2] at hs
       subst hs
       intro hK
       rw [if_pos hw']
       left
       obtain⟨res,u,w',I',pl',k1,k2,k3,k4,k5,k6⟩:=op_ok (P:=P) hG h.hr (hfree base (Nat.le_refl _) (by omega)).1 hev (fun _=>rfl) hop
       refine wp_value k1 k2 ?_
       exact hK _ _ I' pl' (h.put k4 k5 (fun b hb=>k6 b (.inl (by omega))) hp2 k3) (fun b hb=>⟨k6 b hb,fun hn=>upkeys_ok hall b (by omega) hn⟩)
    ·cases hs
   ·cases hs
theorem runR_ok(hG:GOK G P){call:CallF}(hc:FnOK P call){ops:Array Oper}{nx:Nat}(hk:c.k≤nx):∀(l:List Nat){fr:Fr}{hp:Hp}{df:Df}{a:Act}{w:World}{I:Nat→Prop}{pl:Plan}{r:RR},l.Nodup→(∀ i∈l,i<ops.size) →
  SR c nt fr hp df a w I pl→(∀ i∈l,Free pl hp (nx+64*i))→(∀ b,nx+64*ops.size≤b→pl b=none∧look b hp=none)→runR G call nt nx ops l fr hp df=some r →
  wpOps P ops (fun e a w=>RegOK c nt r e a w (nx+64*ops.size)) l a w
 | [],fr,hp,df,a,w,I,pl,r,_,_,h,_,hend,hr=>by
   simp only [runR,Option.some.injEq] at hr
   subst hr
   simp only [wpOps]
   exact⟨rfl,I,pl,h,hend⟩
 | i::l,fr,hp,df,a,w,I,pl,r,hnd,hlt,h,hfree,hend,hr=>by
   unfold runR at hr
   unfold wpOps
   have hi:=hlt i (by simp)
   split at hr
   ·cases hr
   ·rename_i o ho
    simp only [ho]
    have hnd':=List.nodup_cons.1 hnd
    split at hr
    ·rename_i fr2 hp2 df2 hst
     refine stepR_ok hG hc h (hfree i (by simp)) (by omega) hst _ _ ?_
     intro a' w' I' pl' h' hw
     refine runR_ok hG hc hk l hnd'.2 (fun j hj=>hlt j (by simp [hj])) h' (fun j hj b hb1 hb2=>?_) (fun b hb=>?_) hr
     ·have hne:j≠i:=fun e=>hnd'.1 (e▸hj)
      have hf:=hfree j (by simp [hj]) b hb1 hb2
      have hout:=hw b (by
       rcases Nat.lt_or_gt_of_ne hne with h|h
       ·left;omega
       ·right;omega)
      exact⟨by rw [hout.1];exact hf.1,hout.2 hf.2⟩
     ·have hf:=hend b hb
      have hout:=hw b (by right;omega)
      exact⟨by rw [hout.1];exact hf.1,hout.2 hf.2⟩
    ·rename_i r' hst
     cases r with
     | ok fr2 hp2 df2=>exact absurd hr (hst fr2 hp2 df2)
     | pan fr2 hp2 df2 v =>
       refine stepR_ok hG hc h (hfree i (by simp)) (by omega) hr _ _ ?_
       intro a' w' I' pl' u h' hu hw
       exact⟨u,rfl,I',pl',h',hu,fun b hb=>by
        have hf:=hend b hb
        have hout:=hw b (by right;omega)
        exact⟨by rw [hout.1];exact hf.1,hout.2 hf.2⟩⟩
end
def AXOK(w:World)(I:Nat→Prop)(pl:Plan):AX→Exit→Prop
 | .normal,e=>e = .normal
 | .exit id,e=>e = .exit id
 | .ret,e=>e = .ret
 | .pan v,e=>∃ u,e = .panic [{ v:=u,recovered:=false }]∧Rep w I pl v u
structure SS(c:Ctx)(nt:Nat)(st:St)(a:Act)(w:World)(I:Nat→Prop)(pl:Plan):Prop where
 sr:SR c nt st.fr st.hp st.df a w I pl
 free:∀ b,st.nx≤b→pl b=none∧look b st.hp=none
 low:c.k≤st.nx
def At{R:Type}(c:Ctx)(nt:Nat)(k:AX→St→Option R)(r:R)(e:Exit)(a:Act)(w:World):Prop :=
 ∃ ae st I pl,AXOK w I pl ae e∧SS c nt st a w I pl∧k ae st=some r
def DrawSound(P:Program)(nt:Nat)(drawR:Nat→Array Oper→Fr→Hp→Df→Option RR):Prop :=
 ∀ c nx ops fr hp df r,drawR nx ops fr hp df=some r→∀ id a w I pl,SR c nt fr hp df a w I pl→(∀ b,nx≤b→pl b=none∧look b hp=none)→c.k≤nx →
  (Code.region id ops true).wp P (fun e a w=>RegOK c nt r e a w (nx+64*ops.size)) a w
def RR.go{R:Type}(k:AX→St→Option R)(n:Nat):RR→Option R
 | .ok fr hp df=>k .normal ⟨fr,hp,n,df⟩
 | .pan fr hp df v=>k (.pan v) ⟨fr,hp,n,df⟩
section
variable {P : Program} {c : Ctx} {R : Type}
theorem At.reg{nt nx:Nat}{rr:RR}{k:AX→St→Option R}{r:R}{n:Nat}(hk:c.k≤n)
  (h:rr.go k n=some r) {e:Exit} {a:Act} {w:World} (ho:RegOK c nt rr e a w n):At c nt k r e a w:=by
 cases rr with
 | ok fr hp df =>
   obtain⟨rfl,I,pl,h1,h2⟩:=ho
   exact⟨.normal,_,I,pl,rfl,⟨h1,h2,hk⟩,h⟩
 | pan fr hp df v =>
   obtain⟨u,rfl,I,pl,h1,h2,h3⟩:=ho
   exact⟨.pan v,_,I,pl,⟨u,rfl,h2⟩,⟨h1,h3,hk⟩,h⟩
theorem loop_ok{E:Env}{body:Code}(hb:∀ (st:St) (k:AX→St→Option R) (r:R) (a:Act) (w:World) I pl,exec E body st k=some r→SS c E.nt st a w I pl→body.wp P (At c E.nt k r) a w) :
  ∀(n:Nat)(st:St)(k:AX→St→Option R)(r:R)(a:Act)(w:World) I pl,loopIt (fun st k=>exec E body st k) n st k=some r→SS c E.nt st a w I pl→Code.rounds P body (At c E.nt k r) n a w
 | 0,st,k,r,a,w,I,pl,h,_=>by cases h
 | n+1,st,k,r,a,w,I,pl,h,hs=>by
   unfold loopIt at h
   unfold Code.rounds
   refine wp_mono (hb st _ r a w I pl h hs) ?_
   rintro e a' w' ⟨ae,st',I',pl',h1,h2,h3⟩
   cases ae with
   | normal =>
     simp only [AXOK] at h1
     subst h1
     exact loop_ok hb n st' k r a' w' I' pl' h3 h2
   | exit id =>
     simp only [AXOK] at h1
     subst h1
     exact⟨.exit id,st',I',pl',rfl,h2,h3⟩
   | ret =>
     simp only [AXOK] at h1
     subst h1
     exact⟨.ret,st',I',pl',rfl,h2,h3⟩
   | pan v =>
     obtain⟨u,rfl,hu⟩:=h1
     exact⟨.pan v,st',I',pl',⟨u,rfl,hu⟩,h2,h3⟩
theorem exec_ok{E:Env}(hG:GOK E.G P)(hc:FnOK P E.call)(hd:DrawSound P E.nt E.drawR):∀(code:Code)(st:St)(k:AX→St→Option R)(r:R)(a:Act)(w:World) I pl,exec E code st k=some r→SS c E.nt st a w I pl→code.wp P (At c E.nt k r) a w
 | .skip,st,k,r,a,w,I,pl,h,hs=>wp_skip ⟨.normal,st,I,pl,rfl,hs,h⟩
 | .label l,st,k,r,a,w,I,pl,h,hs=>wp_label ⟨.normal,st,I,pl,rfl,hs,h⟩
 | .region id ops draw,st,k,r,a,w,I,pl,h,hs=>by
   unfold exec at h
   have low:c.k≤st.nx+64*ops.size:=by have:=hs.low;omega
   cases hrr:(if draw then E.drawR st.nx ops st.fr st.hp st.df else runR E.G E.call E.nt st.nx ops (List.range ops.size) st.fr st.hp st.df) with
   | none=>simp [hrr] at h
   | some rr =>
     have h':rr.go k (st.nx+64*ops.size)=some r:=by
      rw [hrr] at h
      cases rr<;>exact h
     cases draw with
     | false =>
       simp only [Bool.false_eq_true,if_false] at hrr
       refine wp_mono (wp_region (runR_ok hG hc hs.low (List.range ops.size) List.nodup_range (fun i hi=>List.mem_range.1 hi) hs.sr (fun i hi b hb1 hb2=>hs.free b (by omega)) (fun b hb=>hs.free b (by omega)) hrr)) ?_
       intro e a' w' ho
       exact At.reg (nx:=st.nx) low h' ho
     | true =>
       simp only [if_true] at hrr
       refine wp_mono (hd c st.nx ops st.fr st.hp st.df rr hrr id a w I pl hs.sr hs.free hs.low) ?_
       intro e a' w' ho
       exact At.reg (nx:=st.nx) low h' ho
 | .seq x y,st,k,r,a,w,I,pl,h,hs=>by
   unfold exec at h
   refine wp_seq (wp_mono (exec_ok hG hc hd x st _ r a w I pl h hs) ?_)
   rintro e a' w' ⟨ae,st',I',pl',h1,h2,h3⟩
   cases ae with
   | normal =>
     simp only [AXOK] at h1
     subst h1
     exact exec_ok hG hc hd y st' k r a' w' I' pl' h3 h2
   | exit id =>
     simp only [AXOK] at h1
     subst h1
     exact⟨.exit id,st',I',pl',rfl,h2,h3⟩
   | ret =>
     simp only [AXOK] at h1
     subst h1
     exact⟨.ret,st',I',pl',rfl,h2,h3⟩
   | pan v =>
     obtain⟨u,rfl,hu⟩:=h1
     exact⟨.pan v,st',I',pl',⟨u,rfl,hu⟩,h2,h3⟩
 | .cond o x y,st,k,r,a,w,I,pl,h,hs=>by
   unfold exec at h
   split at h
   ·rename_i t ht
    have hv:=hs.sr.ev _ _ ht
    simp only [Rep] at hv
    cases t with
    | true=>exact wp_cond (t:=true) hv (exec_ok hG hc hd x st k r a w I pl (by simpa using h) hs)
    | false=>exact wp_cond (t:=false) hv (exec_ok hG hc hd y st k r a w I pl (by simpa using h) hs)
   ·cases h
 | .block id b,st,k,r,a,w,I,pl,h,hs=>by
   unfold exec at h
   refine wp_block (wp_mono (exec_ok hG hc hd b st _ r a w I pl h hs) ?_)
   rintro e a' w' ⟨ae,st',I',pl',h1,h2,h3⟩
   cases ae with
   | normal =>
     simp only [AXOK] at h1
     subst h1
     exact⟨.normal,st',I',pl',rfl,h2,h3⟩
   | exit j =>
     simp only [AXOK] at h1
     subst h1
     simp only at h3
     split at h3
     ·rename_i hj
      have hj':=Nat.eq_of_beq_eq_true hj
      subst hj'
      simp only [Exit.inBlock,if_true]
      exact⟨.normal,st',I',pl',rfl,h2,h3⟩
     ·rename_i hj
      have hj':j≠id:=fun e=>hj (by rw [e];simp)
      simp only [Exit.inBlock,if_neg hj']
      exact⟨.exit j,st',I',pl',rfl,h2,h3⟩
   | ret =>
     simp only [AXOK] at h1
     subst h1
     exact⟨.ret,st',I',pl',rfl,h2,h3⟩
   | pan v =>
     obtain⟨u,rfl,hu⟩:=h1
     exact⟨.pan v,st',I',pl',⟨u,rfl,hu⟩,h2,h3⟩
 | .loop b,st,k,r,a,w,I,pl,h,hs=>by
   unfold exec at h
   exact wp_loop_rounds E.fuel (loop_ok (fun st k r a w I pl h hs=>exec_ok hG hc hd b st k r a w I pl h hs) E.fuel st k r a w I pl h hs)
 | .exit j,st,k,r,a,w,I,pl,h,hs=>wp_exit ⟨.exit j,st,I,pl,rfl,hs,h⟩
 | .ret,st,k,r,a,w,I,pl,h,hs=>wp_ret ⟨.ret,st,I,pl,rfl,hs,h⟩
 | .rangeFunc ..,st,k,r,a,w,I,pl,h,hs=>by cases h
 | .scope ..,st,k,r,a,w,I,pl,h,hs=>by cases h
 | .goto ..,st,k,r,a,w,I,pl,h,hs=>by cases h
 | .refuse ..,st,k,r,a,w,I,pl,h,hs=>by cases h
end
end Go.Proofs.YtdhcgankmhpgeaaGreat.M
namespace Go.Proofs.YtdhcgankmhpgeaaGreat.M
open Go Go.RowKit
section
variable {G : Gl} {P : Program} {c : Ctx} {w w' : World} {I I' : Nat → Prop} {pl pl' : Plan} {hp : Hp}
theorem HR.grow(hr:HR w I pl hp)(hb:Below w.heap.size w w'):HR w' I pl hp∧Stp w I pl hp w' I pl hp:=by
 have hk:Keeps I w w':=⟨fun g hg=>hb.block g (hr.imm g hg)⟩
 refine⟨⟨?_,hr.inj,fun g hg=>Nat.lt_of_lt_of_le (hr.imm g hg) hb.size,hr.dis,fun g hg=>Nat.lt_of_lt_of_le (hr.low g hg) hb.size,GV.mono hk (fun _ h=>h) hr.gv⟩,⟨hb.size,fun k hk' _=>hb.block k hk',fun _ h=>h,Plan.le_refl _,fun _ h => .inl h,fun _ h => .inl h,hb.os,hb.tape,hb.output⟩⟩
 intro b o hbo
 by_cases hl:o.live=true
 ·exact(hr.obj b o hbo).move (fun g sz cap hg=>hb.block g (hr.low g ⟨b,o,sz,cap,hbo,hl,hg⟩)) hk (fun _ h=>h) (Plan.le_refl _)
 ·cases o<;>simp [Obj'.live] at hl
  trivial
theorem load_asAddr{T:Nat}{pv v:Value}(h:(Instr.loadAt T pv).run P w = .ok v w):((do loadVar T (← asAddr pv)):Sem Value).run P w = .ok v w:=by
 cases pv<;>simp only [Instr.loadAt,Instr.sureAddr,Sem.run_bind,run_stuck,Result.andThen_halt] at h<;>first|(cases h;done)|skip
 rename_i a
 cases a with
 | none=>simp only [run_stuck,Result.andThen_halt] at h;cases h
 | some a =>
   simp only [Sem.run_pure,Result.andThen_ok] at h
   simp only [asAddr,Sem.run_bind,Sem.run_pure,Result.andThen_ok]
   exact h
theorem resV_ok(hG:GOK G P){st:St}{a:Act}{nt:Nat}(hs:SR c nt st.fr st.hp st.df a w I pl):∀(rs:List ResultVar){l:List AV},resV G st rs=some l →
  ∃ vs:List Value,(rs.mapM (m:=Sem) fun
   | .tmp t=>pure (a.tmps.getD t undef)
   | .cell x t=>do loadVar t (← asAddr (a.tmps.getD x undef))).run P w = .ok vs w∧RepL w I pl l vs
 | [],l,h=>by
   simp only [resV,Option.some.injEq] at h
   subst h
   exact⟨[],rfl,by simp [RepL]⟩
 | .tmp t::rs,l,h=>by
   unfold resV at h
   split at h
   ·rename_i v l' hv hl
    injection h with h
    subst h
    obtain⟨vs,k1,k2⟩:=resV_ok hG hs rs hl
    obtain⟨u,h1,h2⟩:=hs.fr t v hv
    have e:a.tmps.getD t undef=u:=by simp [h1]
    refine⟨u::vs,?_,?_⟩
    ·rw [List.mapM_cons]
     simp only [Sem.run_bind,Sem.run_pure,Result.andThen_ok,k1,e]
    ·simp only [RepL]
     exact⟨u,vs,rfl,h2,k2⟩
   ·cases h
 | .cell t T::rs,l,h=>by
   unfold resV at h
   split at h
   ·rename_i v l' hv hl
    injection h with h
    subst h
    obtain⟨vs,k1,k2⟩:=resV_ok hG hs rs hl
    cases hlk:look t st.fr with
    | none=>simp [hlk] at hv
    | some p =>
      simp [hlk] at hv
      obtain⟨u,h1,h2⟩:=hs.fr t p hlk
      have e:a.tmps.getD t undef=u:=by simp [h1]
      obtain⟨x,m1,m2⟩:=load_ok hG hs.hr h2 hv
      have m3:=load_asAddr m1
      refine⟨x::vs,?_,?_⟩
      ·rw [List.mapM_cons]
       simp only [Sem.run_bind,e] at m3 ⊢
       rw [m3]
       simp only [Result.andThen_ok,k1,Sem.run_pure]
      ·simp only [RepL]
       exact⟨x,vs,rfl,m2,k2⟩
   ·cases h
theorem results_ok(hG:GOK G P){st:St}{a:Act}{nt:Nat}(hs:SR c nt st.fr st.hp st.df a w I pl){F:Func}{l:List AV}(h:resV G st F.results.toList=some l) :
  ∃ v,(results F a.tmps).run P w = .ok v w∧Rep w I pl (packV l) v:=by
 obtain⟨vs,k1,k2⟩:=resV_ok hG hs F.results.toList h
 have hm:(F.results.mapM (m:=Sem) fun
   | .tmp t=>pure (a.tmps.getD t undef)
   | .cell x t=>do loadVar t (← asAddr (a.tmps.getD x undef))).run P w = .ok vs.toArray w:=by
  rw [Array.mapM_eq_mapM_toList,map_eq_pure_bind,Sem.run_bind,k1]
  rfl
 have hlen:=repL_length k2
 refine⟨if h:vs.toArray.size=1 then vs.toArray[0] else .tuple vs.toArray,?_,?_⟩
 ·unfold results
  simp only [Sem.run_bind,Sem.run_pure]
  exact congrArg (fun r:Result (Array Value)=>r.andThen fun vs w=>Result.ok (if h:vs.size=1 then vs[0] else .tuple vs) w) hm
 ·unfold packV
  split
  ·rename_i x
   simp only [RepL] at k2
   obtain⟨v,vs',rfl,h1,rfl⟩:=k2
   simpa using h1
  ·rename_i hne
   have:¬ vs.toArray.size=1:=by
    intro e
    have e2:l.length=1:=by simpa [hlen] using e
    obtain⟨x,rfl⟩:=List.length_eq_one_iff.1 e2
    exact hne x rfl
   rw [dif_neg this]
   simp only [Rep]
   exact⟨vs,rfl,k2⟩
theorem leave_ok{k:Nat}{r r':AV}{objs':List Obj'}(h:leave k hp r=some (r',objs'))(hr:HR w I pl hp){u:Value}(hu:Rep w I pl r u) :
  ∃ pl2,HR w I pl2 (numbered 0 objs')∧Rep w I pl2 r' u∧(∀ g,Own (numbered 0 objs') pl2 g→Own hp pl g)∧∀ b,b<k→pl2 b=pl b:=by
 unfold leave at h
 simp only at h
 generalize hkeys:reach hp 200 (List.range k++keysAV r) []=keys at h
 have hnd:keys.Nodup:=by rw [← hkeys];exact reach_nodup hp _ _ _ (by simp)
 split at h
 ·rename_i htake
  have htake':keys.take k=List.range k:=by simpa using htake
  split at h
  ·rename_i r2 objs hr2 hobjs
   injection h with h
   injection h with h1 h2
   subst h1 h2
   obtain⟨ho1,ho2⟩:=objsOf_some hobjs
   let pl2:Plan:=fun i=>(keys[i]?).bind pl
   have hρ:Carries (fun b=>idx b keys 0) pl pl2:=by
    intro b i p hb hp'
    obtain⟨_,h2⟩:=idx_some hb
    simp only [Nat.sub_zero] at h2
    simp only [pl2,h2,Option.bind_some]
    exact hp'
   have hlk:∀ i oc,look i (numbered 0 objs)=some oc→∃ b o,keys[i]?=some b∧look b hp=some o∧renO (fun b=>idx b keys 0) o=some oc:=by
    intro i oc hi
    rw [look_num] at hi
    have hlt:i<keys.length:=by rw [← ho1];exact(List.getElem?_eq_some_iff.1 hi).1
    obtain⟨o,o',k1,k2,k3⟩:=ho2 i _ (List.getElem?_eq_getElem hlt)
    rw [hi] at k3
    injection k3 with k3
    exact⟨_,o,List.getElem?_eq_getElem hlt,k1,by rw [k2,k3]⟩
   have hown:∀ g,Own (numbered 0 objs) pl2 g→Own hp pl g:=by
    rintro g ⟨i,oc,sz,cap,h1,h2,h3⟩
    obtain⟨b,o,k1,k2,k3⟩:=hlk i oc h1
    have hl:=(renO_ok (w:=w) (I:=I) (b:=b) (b':=i) hρ k3 (fun p hp'=>by simp only [pl2,k1,Option.bind_some];exact hp') (hr.obj b o k2)).2
    simp only [pl2,k1,Option.bind_some] at h3
    exact⟨b,o,sz,cap,k2,by rw [← hl];exact h2,h3⟩
   refine⟨pl2,⟨?_,?_,hr.imm,fun g hg=>hr.dis g (hown g hg),fun g hg=>hr.low g (hown g hg),hr.gv⟩,ren_ok hρ _ hr2 hu,hown,?_⟩
   ·intro i oc hi
    obtain⟨b,o,k1,k2,k3⟩:=hlk i oc hi
    exact(renO_ok (b:=b) (b':=i) hρ k3 (fun p hp'=>by simp only [pl2,k1,Option.bind_some];exact hp') (hr.obj b o k2)).1
   ·intro i i' oc oc' g sz cap sz' cap' h1 h2 l1 l2 p1 p2
    obtain⟨b,o,k1,k2,k3⟩:=hlk i oc h1
    obtain⟨b',o',k1',k2',k3'⟩:=hlk i' oc' h2
    have hl:=(renO_ok (w:=w) (I:=I) (b:=b) (b':=i) hρ k3 (fun p hp'=>by simp only [pl2,k1,Option.bind_some];exact hp') (hr.obj b o k2)).2
    have hl':=(renO_ok (w:=w) (I:=I) (b:=b') (b':=i') hρ k3' (fun p hp'=>by simp only [pl2,k1',Option.bind_some];exact hp') (hr.obj b' o' k2')).2
    simp only [pl2,k1,Option.bind_some] at p1
    simp only [pl2,k1',Option.bind_some] at p2
    have e:=hr.inj b b' o o' g sz cap sz' cap' k2 k2' (by rw [← hl];exact l1) (by rw [← hl'];exact l2) p1 p2
    subst e
    obtain⟨hi,e1⟩:=List.getElem?_eq_some_iff.1 k1
    obtain⟨hi',e2⟩:=List.getElem?_eq_some_iff.1 k1'
    exact(List.getElem_inj hnd).1 (e1.trans e2.symm)
   ·intro b hb
    have e:keys[b]?=some b:=by
     have:=congrArg (fun l:List Nat=>l[b]?) htake'
     simp only [List.getElem?_take,hb,if_true] at this
     rw [this]
     simp [hb]
    simp only [pl2,e,Option.bind_some]
  ·cases h
 ·cases h
structure CatchOK(P:Program)(f errT:Nat):Prop where
 fn:∃ fn,P.funcs[f]?=some fn∧fn.body.isNone=false∧(fn.name == "runtime.NumGoroutine")=false
 back:∀(w:World)(pv:Value),CallsD P f #[pv] .returning w fun e u w'=>(∃ v,e = .returned v)∧u = .returning∧Below w.heap.size w w'
 pan:∀(w w1:World)(pv:Value)(k:IntKind)(n:Int),(Instr.storeAt errT pv (.int k n)).run P w = .ok () w1 →
  CallsD P f #[pv] (.panicking [{ v := .iface errT (.int k n),recovered:=false }]) w fun e u w'=>(∃ v,e = .returned v)∧u = .panicking [{ v := .iface errT (.int k n),recovered:=true }]∧Below w1.heap.size w1 w'
def Post(c:Ctx)(r:AE)(objs':List Obj')(e:Ending)(w':World):Prop :=
 ∃ I' pl',Stp c.w c.I c.pl c.hp w' I' pl' (numbered 0 objs')∧HR w' I' pl' (numbered 0 objs')∧EndOK w' I' pl' r e∧∀ b,b<c.k→pl' b=c.pl b
theorem left_ok{st:St}{a:Act}{nt:Nat}(hs:SR c nt st.fr st.hp st.df a w I pl)(hc:∀ b,c.k≤b→c.pl b=none){r0 r':AV}{objs':List Obj'}(hl:leave c.k st.hp r0=some (r',objs')){u:Value}(hu:Rep w I pl r0 u) :
  ∃ I' pl',Stp c.w c.I c.pl c.hp w I' pl' (numbered 0 objs')∧HR w I' pl' (numbered 0 objs')∧Rep w I' pl' r' u∧∀ b,b<c.k→pl' b=c.pl b:=by
 obtain⟨pl2,k1,k2,k3,k4⟩:=leave_ok hl hs.hr hu
 refine⟨I,pl2,?_,k1,k2,fun b hb=>(k4 b hb).trans (hs.win b hb)⟩
 have h:=hs.stp
 refine { h with ple:=?_,own:=fun g hg=>h.own g (k3 g hg) }
 intro b p hb
 have hlt:b<c.k:=by
  rcases Nat.lt_or_ge b c.k with h|h
  ·exact h
  ·rw [hc b h] at hb;cases hb
 rw [k4 b hlt,hs.win b hlt]
 exact hb
theorem finish_ok(hG:GOK G P){catchF errT:Nat}(hcat:CatchOK P catchF errT){F:Func}{nt:Nat}{r:AE}{objs':List Obj'}(hc:∀ b,c.k≤b→c.pl b=none){e:Exit}{a:Act}{w:World}
  (h:At c nt (finish G catchF errT F c.k) (r,objs') e a w):bodyPostD P F (fun e w'=>Post c r objs' e w') e a w:=by
 obtain⟨ae,st,I,pl,hae,hss,hfin⟩:=h
 have hs:=hss.sr
 have rets:∀(st2:St)(w2:World)(I2:Nat→Prop)(pl2:Plan)(a2:Act){l:List AV},a2.tmps=a.tmps→SR c nt st2.fr st2.hp st2.df a2 w2 I2 pl2→resV G st2 F.results.toList=some l→(leave c.k st2.hp (packV l)).map (fun q=>(AE.ret q.1,q.2))=some (r,objs') →
   Leaves P F a.tmps (fun e w'=>Post c r objs' e w') [] .returning w2:=by
  intro st2 w2 I2 pl2 a2 l ha hs2 hl hq
  obtain⟨q,hq1,hq2⟩:=Option.map_eq_some_iff.1 hq
  injection hq2 with h1 h2
  obtain⟨v,k1,k2⟩:=results_ok hG hs2 hl
  obtain⟨r',o'⟩:=q
  simp only at h1 h2
  subst h1 h2
  obtain⟨I',pl',m1,m2,m3,m4⟩:=left_ok hs2 hc hq1 k2
  simp only [Leaves]
  exact⟨v,by rw [← ha];exact k1,I',pl',m1,m2,⟨v,rfl,m3⟩,m4⟩
 unfold finish at hfin
 split at hfin
 ·rename_i st2 hdoor
  split at hfin
  ·rename_i l hl
   unfold door at hdoor
   split at hdoor
   ·rename_i hdf
    simp only [Option.some.injEq,Prod.mk.injEq,true_and] at hdoor
    subst hdoor
    simp only [AXOK] at hae
    subst hae
    have hd:=hs.df
    rw [hdf] at hd
    simp only [DfOK] at hd
    show Leaves P F a.tmps _ a.defers .returning w
    rw [hd]
    exact rets st w I pl a rfl hs hl hfin
   ·rename_i hdf
    simp only [Option.some.injEq,Prod.mk.injEq,true_and] at hdoor
    subst hdoor
    simp only [AXOK] at hae
    subst hae
    have hd:=hs.df
    rw [hdf] at hd
    simp only [DfOK] at hd
    show Leaves P F a.tmps _ a.defers .returning w
    rw [hd]
    exact rets st w I pl a rfl hs hl hfin
   ·simp at hdoor
   ·rename_i ae2 f p hdf
    split at hdoor
    ·rename_i hf
     have hf':=Nat.eq_of_beq_eq_true hf
     subst hf'
     have hd:=hs.df
     rw [hdf] at hd
     simp only [DfOK,RepL] at hd
     obtain⟨d,ds',hds,⟨caps,vs,t1,t2,v0,vs0,t3,t4,rfl⟩,rfl⟩:=hd
     obtain⟨fn,c1,c2,c3⟩:=hcat.fn
     have hinv:∀ w:World,(invoke (.fn (.func f) caps.toArray) vs.toArray).run P w = .ok (.enter f #[v0]) w:=by
      intro w
      have h1:vs.toArray++caps.toArray=#[v0]:=by
       apply Array.ext'
       simpa using t3
      have c3':¬ fn.name = "runtime.NumGoroutine" := by simpa using c3
      have c2':¬ fn.body=none:=by
       intro e
       rw [e] at c2
       cases c2
      simp [invoke,callFunc,c1,c2',c3',h1]
     have hdd:d={ target := .fn (.func f) caps.toArray,args:=vs.toArray }:=by
      cases d
      simp only at t1 t2
      rw [t1,t2]
     have hsd:∀{fr2:Fr}{hp2:Hp}{df2:Df}{w2:World}{I2:Nat→Prop}{pl2:Plan},SR c nt fr2 hp2 df2 a w2 I2 pl2→SR c nt fr2 hp2 [] { a with defers:=[] } w2 I2 pl2 :=
      fun h=>⟨h.hr,h.fr,h.sz,h.stp,h.win,by simp [DfOK]⟩
     have plain:st2={ st with df:=[] }→Leaves P F a.tmps (fun e w'=>Post c r objs' e w') a.defers .returning w:=by
      intro hst2
      subst hst2
      rw [hds,hdd]
      refine leaves_cons (by simp) (hinv w) ?_
      refine(hcat.back w v0).mono ?_
      rintro e u w' ⟨⟨v,rfl⟩,rfl,hb⟩
      have hg:=hs.hr.grow hb
      have hs2:SR c nt st.fr st.hp st.df a w' I pl:=⟨hg.1,hg.2.fr hs.hr hs.fr,hs.sz,hs.stp.trans hg.2,hs.win,DfOK.mono (hg.2.keeps hs.hr) hg.2.inc hg.2.ple _ hs.df⟩
      exact rets { st with df:=[] } w' I pl { a with defers:=[] } rfl (hsd hs2) hl hfin
     split at hdoor
     ·simp only [Option.some.injEq,Prod.mk.injEq,true_and] at hdoor
      simp only [AXOK] at hae
      subst hae
      exact plain hdoor.symm
     ·simp only [Option.some.injEq,Prod.mk.injEq,true_and] at hdoor
      simp only [AXOK] at hae
      subst hae
      exact plain hdoor.symm
     ·rename_i t k n
      split at hdoor
      ·rename_i ht
       have ht':=Nat.eq_of_beq_eq_true ht
       subst ht'
       obtain⟨u,rfl,hu⟩:=hae
       simp only [Rep] at hu
       obtain⟨u',rfl,rfl⟩:=hu
       cases hst:storeD G st.hp t p (.int k n) with
       | none=>simp [hst] at hdoor
       | some up =>
         simp [hst] at hdoor
         subst hdoor
         obtain⟨w1,s1,s2,s3⟩:=store_ok (P:=P) hG hs.hr t4 (x := .int k n) (xv := .int k n) (by simp [Rep]) hst
         show Leaves P F a.tmps _ a.defers _ w
         rw [hds,hdd]
         refine leaves_cons (by simp) (hinv w) ?_
         refine(hcat.pan w w1 v0 k n s1).mono ?_
         rintro e u w' ⟨⟨v,rfl⟩,rfl,hb⟩
         have hg:=s2.grow hb
         have hst2:=s3.trans hg.2
         have hs2:SR c nt st.fr (up++st.hp) st.df a w' I pl:=⟨hg.1,hst2.fr hs.hr hs.fr,hs.sz,hs.stp.trans hst2,hs.win,DfOK.mono (hst2.keeps hs.hr) hst2.inc hst2.ple _ hs.df⟩
         exact rets { st with hp:=up++st.hp,df:=[] } w' I pl { a with defers:=[] } rfl (hsd hs2) hl hfin
      ·cases hdoor
     ·cases hdoor
    ·cases hdoor
   ·cases hdoor
  ·cases hfin
 ·rename_i v st2 hdoor
  unfold door at hdoor
  split at hdoor
  ·simp at hdoor
  ·simp at hdoor
  ·rename_i hdf
   simp only [Option.some.injEq,Prod.mk.injEq] at hdoor
   obtain⟨rfl,rfl⟩:=hdoor
   obtain⟨u,rfl,hu⟩:=hae
   have hd:=hs.df
   rw [hdf] at hd
   simp only [DfOK] at hd
   obtain⟨q,hq1,hq2⟩:=Option.map_eq_some_iff.1 hfin
   injection hq2 with h1 h2
   obtain⟨r',o'⟩:=q
   simp only at h1 h2
   subst h1 h2
   obtain⟨I',pl',m1,m2,m3,m4⟩:=left_ok hs hc hq1 hu
   show Leaves P F a.tmps _ a.defers _ w
   rw [hd]
   exact⟨I',pl',m1,m2,⟨u,rfl,m3⟩,m4⟩
  ·split at hdoor
   ·split at hdoor
    ·simp at hdoor
    ·simp at hdoor
    ·split at hdoor
     ·obtain⟨up,_,hup⟩:=Option.map_eq_some_iff.1 hdoor
      injection hup with h1 _
      cases h1
     ·cases hdoor
    ·cases hdoor
   ·cases hdoor
  ·cases hdoor
 ·cases hfin
def PuOK(G:Gl)(P:Program):Prop:=∀ f p,G.pu f=some p→∀ args r,p args=some r→∀ w I pl vs,HR w I pl []→(∀ b,pl b=none)→RepL w I pl args vs →
 Calls P f vs.toArray w fun e w'=>∃ I' pl',Stp w I pl [] w' I' pl' []∧HR w' I' pl' []∧EndOK w' I' pl' r e
structure CfgOK(C:Cfg)(P:Program):Prop where
 G:GOK C.G P
 cat:CatchOK P C.catchF C.errT
 pu:PuOK C.G P
 draw:∀ call,FnOK P call→∀ nt,DrawSound P nt (C.drawR call nt)
end
end Go.Proofs.YtdhcgankmhpgeaaGreat.M
namespace Go.Proofs.YtdhcgankmhpgeaaGreat.M
open Go
def keyTop:AV→List Nat
 | .ptr b _ | .rp b _ _ | .row b _ _ | .mp b=>[b]
 | _=>[]
section
variable {G : Gl} {hp hp' : Hp} {fr fr' : Fr}
def Same(hp hp':Hp)(v:AV):Prop:=∀ b∈keyTop v,look b hp'=look b hp
theorem elemsOf_local{want:Nat}{x:AV}(h:Same hp hp' x):elemsOf hp' want x=elemsOf hp want x:=by
 cases x<;>simp only [elemsOf]
 rename_i b off n
 rw [h b (by simp [keyTop])]
theorem loadD_local{T:Nat}{x:AV}(h:Same hp hp' x):loadD G hp' T x=loadD G hp T x:=by
 unfold loadD
 cases G.ty T with
 | none=>rfl
 | some i =>
   cases x<;>simp only
   ·rename_i b off
    rw [h b (by simp [keyTop])]
   ·rename_i b i off
    rw [h b (by simp [keyTop])]
theorem storeD_local{T:Nat}{x y:AV}(h:Same hp hp' x):storeD G hp' T x y=storeD G hp T x y:=by
 unfold storeD
 cases G.ty T with
 | none=>rfl
 | some i =>
   cases cellsOf y with
   | none=>rfl
   | some new =>
     simp only
     cases x<;>simp only
     ·rename_i b off
      rw [h b (by simp [keyTop])]
     ·rename_i b i off
      rw [h b (by simp [keyTop])]
theorem indexAddrD_local{T:Nat}{x i:AV}(h:Same hp hp' x):indexAddrD G hp' T x i=indexAddrD G hp T x i:=by
 unfold indexAddrD
 cases i<;>simp only
 split<;>try rfl
 cases sliceElem G T with
 | none=>rfl
 | some ie =>
   cases x<;>simp only
   rename_i b off n
   rw [h b (by simp [keyTop])]
theorem sliceD_local{T:Nat}{x:AV}{lo hi:Option AV}(h:Same hp hp' x):sliceD G hp' T x lo hi=sliceD G hp T x lo hi:=by
 unfold sliceD
 cases x<;>simp only
 rename_i b off n
 rw [h b (by simp [keyTop])]
theorem appendD_local{base T:Nat}{s x:AV}(h1:Same hp hp' s)(h2:Same hp hp' x):appendD G base hp' T s x=appendD G base hp T s x:=by
 unfold appendD
 split
 ·simp only [elemsOf_local h2]
  split
  ·split
   ·cases s<;>try rfl
    rename_i b off n
    cases off with
    | zero=>simp only [h1 b (by simp [keyTop])]
    | succ k=>rfl
   ·rfl
  ·rfl
 ·rfl
theorem copyD_local{T:Nat}{d x:AV}(h1:Same hp hp' d)(h2:Same hp hp' x):copyD G hp' T d x=copyD G hp T d x:=by
 unfold copyD
 simp only [elemsOf_local h2]
 cases sliceElem G T with
 | none=>rfl
 | some ie =>
   simp only [Option.bind_some]
   cases elemsOf hp ie.size x with
   | none=>cases d<;>rfl
   | some new =>
     cases d<;>try rfl
     rename_i b off n
     simp only [h1 b (by simp [keyTop])]
theorem partsD_local:∀(ps:List (Nat×Operand)),(∀ q∈ps,opv fr' q.2=opv fr q.2)→partsD fr' ps=partsD fr ps
 | [],_=>rfl
 | (i,x)::r,h=>by
   unfold partsD
   rw [h (i,x) (by simp),partsD_local r (fun q hq=>h q (by simp [hq]))]
theorem argsD_local:∀(l:List Operand),(∀ x∈l,opv fr' x=opv fr x)→argsD fr' l=argsD fr l
 | [],_=>rfl
 | x::r,h=>by
   unfold argsD
   rw [h x (by simp),argsD_local r (fun q hq=>h q (by simp [hq]))]
theorem opD_local{base:Nat}{o:Oper}(h1:∀ x∈o.op.operands.toList,opv fr' x=opv fr x)(h2:∀ x∈o.op.operands.toList,∀ v,opv fr x=some v→Same hp hp' v):opD G base o fr' hp'=opD G base o fr hp:=by
 obtain⟨dst,op,type,pos,after,guard⟩:=o
 simp only at h1 h2
 unfold opD
 cases op<;>try rfl
 all_goals simp only
 all_goals simp only [Op.operands] at h1 h2
 case move x=>rw [h1 x (by simp)]
 case assign x=>rw [h1 x (by simp)]
 case pick c a b =>
  rw [h1 c (by simp)]
  cases hc:opv fr c with
  | none=>rfl
  | some v =>
    cases v<;>try rfl
    rename_i t
    cases t
    ·simp only [Bool.false_eq_true,if_false,h1 b (by simp)]
    ·simp only [if_true,h1 a (by simp)]
 case box T x=>rw [h1 x (by simp)]
 case build T ps=>rw [partsD_local ps.toList (fun q hq=>h1 q.2 (by simpa using ⟨q.1,by simpa using hq⟩))]
 case buildSlice T n ps=>rw [partsD_local ps.toList (fun q hq=>h1 q.2 (by simpa using ⟨q.1,by simpa using hq⟩))]
 case load T a =>
  rw [h1 a (by simp)]
  cases ha:opv fr a with
  | none=>rfl
  | some v=>simp only [Option.bind_some,loadD_local (h2 a (by simp) v ha)]
 case store T a x =>
  rw [h1 a (by simp),h1 x (by simp)]
  cases ha:opv fr a with
  | none=>rfl
  | some v =>
    cases opv fr x with
    | none=>rfl
    | some y=>simp only [storeD_local (h2 a (by simp) v ha)]
 case nilCheck x=>rw [h1 x (by simp)]
 case binOp op T x y U=>rw [h1 x (by simp),h1 y (by simp)]
 case unOp op T x=>rw [h1 x (by simp)]
 case convert S T x=>rw [h1 x (by simp)]
 case makeInterface T x=>rw [h1 x (by simp)]
 case makeFunc fn first cap =>
  have e:argsD fr' cap.toList=argsD fr cap.toList:=argsD_local cap.toList (fun x hx=>h1 x (by simp at hx ⊢;first|exact hx|exact .inr hx))
  cases fn<;>try rfl
  simp only [e]
 case makeSlice T l c=>rw [h1 l (by simp),h1 c (by simp)]
 case slice T x lo hi mx =>
  cases mx<;>try rfl
  simp only
  have e1:lo.map (opv fr')=lo.map (opv fr):=by
   cases lo with
   | none=>rfl
   | some a=>simp only [Option.map_some,h1 a (by simp)]
  have e2:hi.map (opv fr')=hi.map (opv fr):=by
   cases hi with
   | none=>rfl
   | some a=>simp only [Option.map_some,h1 a (by simp)]
  rw [h1 x (by simp),e1,e2]
  cases hx:opv fr x with
  | none=>rfl
  | some v =>
    have hs:=h2 x (by simp) v hx
    generalize lo.map (opv fr)=l
    generalize hi.map (opv fr)=h
    rcases l with _|_|l<;>rcases h with _|_|h<;>first|rfl|simp only [sliceD_local hs]
 case fieldAddr S x f=>rw [h1 x (by simp)]
 case field S x f=>rw [h1 x (by simp)]
 case indexAddr T x i =>
  rw [h1 x (by simp),h1 i (by simp)]
  cases hx:opv fr x with
  | none=>rfl
  | some v =>
    cases opv fr i with
    | none=>rfl
    | some y=>simp only [indexAddrD_local (h2 x (by simp) v hx)]
 case index T x i=>rw [h1 x (by simp),h1 i (by simp)]
 case extract t i=>rw [h1 t (by simp)]
 case lookup T m k ok =>
  rw [h1 m (by simp),h1 k (by simp)]
  cases hm:opv fr m with
  | none=>rfl
  | some v =>
    have:=h2 m (by simp) v hm
    cases v<;>try rfl
    rename_i b
    have e:=this b (by simp [keyTop])
    cases opv fr k with
    | none=>rfl
    | some kv =>
      cases kv<;>try rfl
      cases isMapS G T with
      | none=>rfl
      | some ie=>simp only [e]
 case mapUpdate T m k x =>
  rw [h1 m (by simp),h1 k (by simp),h1 x (by simp)]
  cases hm:opv fr m with
  | none=>rfl
  | some v =>
    have:=h2 m (by simp) v hm
    cases v<;>try rfl
    rename_i b
    have e:=this b (by simp [keyTop])
    cases opv fr k with
    | none=>rfl
    | some kv =>
      cases kv<;>try rfl
      cases opv fr x with
      | none=>rfl
      | some xv =>
        cases isMapS G T with
        | none=>rfl
        | some ie=>simp only [e]
 case makeMap T r=>cases r<;>rfl
 case call c =>
  obtain⟨callee,args,argTypes⟩:=c
  cases callee with
  | value f=>rfl
  | invoke r m=>rfl
  | builtin b =>
    simp only [Call.operands] at h1 h2
    have h1':∀ x∈args.toList,opv fr' x=opv fr x:=fun x hx=>h1 x (by simpa using hx)
    have h2':∀ x∈args.toList,∀ v,opv fr x=some v→Same hp hp' v:=fun x hx=>h2 x (by simpa using hx)
    clear h1 h2
    cases b<;>try rfl
    case len =>
     simp only
     generalize args.toList=l at *
     generalize argTypes.toList=m at *
     match l,m with
     | [x],[T] =>
       simp only
       rw [h1' x (by simp)]
       rfl
     | [],_=>rfl
     | [_],[]=>rfl
     | [_],_::_::_=>rfl
     | _::_::_,_=>rfl
    case append =>
     simp only
     generalize args.toList=l at *
     generalize argTypes.toList=m at *
     match l,m with
     | [s,x],[T,U] =>
       simp only
       rw [h1' s (by simp),h1' x (by simp)]
       cases hs:opv fr s with
       | none=>rfl
       | some sv =>
         cases hx:opv fr x with
         | none=>rfl
         | some xv=>simp only [appendD_local (h2' s (by simp) sv hs) (h2' x (by simp) xv hx)]
     | [],_=>rfl
     | [_],_=>rfl
     | [_,_],[]=>rfl
     | [_,_],[_]=>rfl
     | [_,_],_::_::_::_=>rfl
     | _::_::_::_,_=>rfl
    case copy =>
     simp only
     generalize args.toList=l at *
     generalize argTypes.toList=m at *
     match l,m with
     | [s,x],[T,U] =>
       simp only
       rw [h1' s (by simp),h1' x (by simp)]
       cases hs:opv fr s with
       | none=>rfl
       | some sv =>
         cases hx:opv fr x with
         | none=>rfl
         | some xv=>simp only [copyD_local (h2' s (by simp) sv hs) (h2' x (by simp) xv hx)]
     | [],_=>rfl
     | [_],_=>rfl
     | [_,_],[]=>rfl
     | [_,_],[_]=>rfl
     | [_,_],_::_::_::_=>rfl
     | _::_::_::_,_=>rfl
    case max =>
     simp only
     rw [argsD_local args.toList h1']
    case min =>
     simp only
     rw [argsD_local args.toList h1']
theorem objsOf_local{ρ:Nat→Option Nat}:∀(keys:List Nat),(∀ b∈keys,look b hp'=look b hp)→objsOf hp' ρ keys=objsOf hp ρ keys
 | [],_=>rfl
 | b::r,h=>by
   unfold objsOf
   rw [h b (by simp),objsOf_local r (fun c hc=>h c (by simp [hc]))]
theorem callD_local{call:CallF}{base f:Nat}{args:List AV}(h:∀ b∈reach hp 200 (keysL args) [],look b hp'=look b hp):callD call base f args hp'=callD call base f args hp:=by
 unfold callD
 simp only
 rw [reach_local 200 (keysL args) [] h,objsOf_local _ h]
end
def stepD(G:Gl)(call:CallF)(base:Nat)(ops:Array Oper)(o:Oper)(fr:Fr)(hp:Hp):Option (AE×Hp) :=
 match wantD ops o fr with
 | none=>none
 | some false=>some (.ret (.tup []),[])
 | some true=>match o.op with
   | .call { callee := .value f,args,.. }=>match opv fr f,argsD fr args.toList with
     | some (.fn g caps),some l=>callD call base g (l++caps) hp
     | _,_=>none
   | .defer _=>none
   | .panic x=>match opv fr x with
     | some (.ifc t v)=>some (.pan (.ifc t v),[])
     | _=>none
   | _=>(opD G base o fr hp).map fun q=>(.ret q.1,q.2)
def rkD(o:Oper)(fr:Fr)(hp:Hp):List Nat :=
 match o.op with
 | .call { callee := .value f,args,.. }=>match opv fr f,argsD fr args.toList with
   | some (.fn _ caps),some l=>reach hp 200 (keysL (l++caps)) []
   | _,_=>[]
 | _=>o.op.operands.toList.flatMap fun x=>match opv fr x with
   | some v=>keyTop v
   | none=>[]
structure Rec where
 i:Nat
 pre:Nat
 dst:Option Nat
 v:AV
 up:Hp
 lk:List Nat
 rk:List Nat
def hasN(b:Nat):List Nat→Bool
 | []=>false
 | c::r=>Nat.beq b c||hasN b r
def hasK(b:Nat):Hp→Bool
 | []=>false
 | q::r=>Nat.beq b q.1||hasK b r
def hasO(l:List Nat):Option Nat→Bool
 | none=>false
 | some t=>hasN t l
def neO:Option Nat→Option Nat→Bool
 | some s,some t => !Nat.beq s t
 | _,_=>true
def apart(r q:Rec):Bool :=
 neO r.dst q.dst && !hasO r.lk q.dst && !hasO q.lk r.dst &&
 q.up.all (fun k => !hasN k.1 r.rk && !hasK k.1 r.up)&&r.up.all (fun k => !hasN k.1 q.rk)
def apartAll(r:Rec):List Rec→Bool
 | []=>true
 | q::D=>(Nat.testBit r.pre q.i||apart r q)&&apartAll r D
def findP(j:Nat):List Rec→Option Nat
 | []=>none
 | r::D=>if Nat.beq j r.i then some r.pre else findP j D
def preOf(D:List Rec):List Edge→Option Nat
 | []=>some 0
 | e::es=>match preOf D es with
   | none=>none
   | some p=>if Region.binds .any e then match findP e.on D with
     | none=>none
     | some q=>some (p ||| q ||| 2^e.on)
    else some p
structure DS where
 D:List Rec
 fr:Fr
 hp:Hp
 pan:Option (Nat×Nat×Hp×AV)
def ltO(nt:Nat):Option Nat→Bool
 | none=>true
 | some t=>Nat.blt t nt
def keysOK(nx i pre:Nat):Hp→Bool
 | []=>true
 | q::r=>(Nat.blt q.1 nx||Nat.beq ((q.1-nx) / 64) i||Nat.testBit pre ((q.1-nx) / 64))&&keysOK nx i pre r
def putO(fr:Fr)(dst:Option Nat)(v:AV):Fr :=
 match dst with
 | none=>fr
 | some t=>(t,v)::fr
def DS.dead(s:DS)(pre:Nat):Bool :=
 match s.pan with
 | none=>false
 | some p=>Nat.testBit pre p.1
def drawGo(G:Gl)(call:CallF)(nt nx:Nat)(ops:Array Oper):List Nat→DS→Option DS
 | [],s=>some s
 | i::rest,s=>match ops[i]? with
   | none=>none
   | some o=>match preOf s.D o.after.toList with
     | none=>none
     | some pre =>
       if s.dead pre then drawGo G call nt nx ops rest { s with D:=⟨i,pre,none,.undef,[],[],[]⟩::s.D }
       else match stepD G call (nx+64*i) ops o s.fr s.hp with
        | none=>none
        | some (.ret v,up) =>
          let r:Rec:=⟨i,pre,o.dst,v,up,o.looksAt ops,rkD o s.fr s.hp⟩
          if ltO nt o.dst&&keysOK nx i pre up&&apartAll r s.D then drawGo G call nt nx ops rest { s with D:=r::s.D,fr:=putO s.fr o.dst v,hp:=up++s.hp }
          else none
        | some (.pan v,up) =>
          let r:Rec:=⟨i,pre,none,.undef,[],o.looksAt ops,rkD o s.fr s.hp⟩
          if s.pan.isNone&&keysOK nx i pre up&&apartAll r s.D then drawGo G call nt nx ops rest { s with D:=r::s.D,pan:=some (i,pre,up,v) }
          else none
def frOf(S:Nat→Bool)(fr:Fr):List Rec→Fr
 | []=>fr
 | r::D=>if S r.i then putO (frOf S fr D) r.dst r.v else frOf S fr D
def hpOf(S:Nat→Bool)(hp:Hp):List Rec→Hp
 | []=>hp
 | r::D=>if S r.i then r.up++hpOf S hp D else hpOf S hp D
def maskOf(fr:Fr):List Rec→Fr
 | []=>fr
 | r::D=>putO (maskOf fr D) r.dst .undef
def besideOK(p pre:Nat)(hpP:Hp):List Rec→Bool
 | []=>true
 | r::D=>(Nat.testBit pre r.i||r.up.all (fun q=>(look q.1 hpP).isNone))&&besideOK p pre hpP D
def drawD(G:Gl)(call:CallF)(nt nx:Nat)(ops:Array Oper)(fr:Fr)(hp:Hp)(df:Df):Option RR :=
 match drawGo G call nt nx ops (List.range ops.size) ⟨[],fr,hp,none⟩ with
 | none=>none
 | some s=>match s.pan with
   | none=>some (.ok s.fr s.hp df)
   | some (p,pre,up,v) =>
     let hpP:=hpOf (Nat.testBit pre) hp s.D
     if besideOK p pre hpP s.D then some (.pan (maskOf fr s.D) (up++hpP) df v) else none
section
variable {G : Gl} {P : Program} {c : Ctx} {nt : Nat} {fr fr' : Fr} {hp hp' : Hp} {df : Df} {a : Act} {w w' : World} {I I' : Nat → Prop} {pl pl' : Plan}
theorem putF_putO{dst:Option Nat}(v:AV)(h:ltO nt dst=true):putF nt fr dst v=some (putO fr dst v):=by
 cases dst with
 | none=>rfl
 | some t =>
   simp only [ltO] at h
   simp only [putF,putO,h,if_true]
def StepDOK(P:Program)(c:Ctx)(nt base:Nat)(fr:Fr)(hp:Hp)(df:Df)(pl:Plan)(ops:Array Oper)(o:Oper)(a:Act)(w:World)(ae:AE)(up:Hp)(K:Act→World→Prop)(Q:Exit→Act→World→Prop):Prop :=
 match ae with
 | .ret v=>ltO nt o.dst=true→(∀ a' w' I' pl',SR c nt (putO fr o.dst v) (up++hp) df a' w' I' pl'→(∀ b,(b<base∨base+64≤b)→pl' b=pl b)→K a' w') →
   (if Region.wanted o (yielded ops a.tmps) then o.wp P a w K Q∨(o.asks P a w∧LetsOut Q) else K (a.put o.dst undef) w)
 | .pan v=>(∀ a' w' I' pl' u,SR c nt fr (up++hp) df a' w' I' pl'→Rep w' I' pl' v u→(∀ b,(b<base∨base+64≤b)→pl' b=pl b)→Q (.panic [{ v:=u,recovered:=false }]) a' w') →
   (if Region.wanted o (yielded ops a.tmps) then o.wp P a w K Q∨(o.asks P a w∧LetsOut Q) else K (a.put o.dst undef) w)
set_option maxHeartbeats 1000000 in
theorem stepD_ok(hG:GOK G P){call:CallF}(hc:FnOK P call){base:Nat}{ops:Array Oper}{o:Oper}(h:SR c nt fr hp df a w I pl)(hfree:Free pl hp base)(hk:c.k≤base){ae:AE}{up:Hp}(hs:stepD G call base ops o fr hp=some (ae,up))(K:Act→World→Prop)(Q:Exit→Act→World→Prop) :
  StepDOK P c nt base fr hp df pl ops o a w ae up K Q:=by
 have hev:=h.ev
 unfold stepD at hs
 split at hs
 ·cases hs
 ·rename_i hw
  have hw':=want_ok h hw
  simp only [Option.some.injEq,Prod.mk.injEq] at hs
  obtain⟨rfl,rfl⟩:=hs
  intro hlt hK
  rw [if_neg (by rw [hw'];simp)]
  exact hK _ _ I pl (h.put (Stp.refl _ _ _ _) h.hr (fun _ _=>rfl) (putF_putO _ hlt) (rep_undef w I pl)) (fun _ _=>rfl)
 ·rename_i hw
  have hw':=want_ok h hw
  split at hs
  ·rename_i f args at' hop
   split at hs
   ·rename_i g caps l hf hl
    have hfv:=hev _ _ hf
    simp only [Rep] at hfv
    obtain⟨cv,hfv,hcv⟩:=hfv
    have hlv:=args_ok hev _ hl
    have hrep:=repL_append hlv hcv
    have hcall:=hs
    cases ae with
    | ret v =>
      intro hlt hK
      rw [if_pos hw']
      left
      obtain⟨fn,e1,e2,e3⟩:=callD_enter hc hcall
      have hrun:=run_callee (w:=w) e1 e2 e3 hop hfv rfl
      unfold Oper.wp
      rw [hrun]
      refine(call_ok hc h.hr hfree hrep hcall).mono ?_
      rintro e w' ⟨I',pl',k1,k2,⟨u,rfl,k3⟩,k4⟩
      exact hK _ _ I' pl' (h.put k1 k2 (fun b hb=>k4 b (.inl (by omega))) (putF_putO _ hlt) k3) (fun b hb=>k4 b hb)
    | pan v =>
      intro hQ
      rw [if_pos hw']
      left
      obtain⟨fn,e1,e2,e3⟩:=callD_enter hc hcall
      have hrun:=run_callee (w:=w) e1 e2 e3 hop hfv rfl
      unfold Oper.wp
      rw [hrun]
      refine(call_ok hc h.hr hfree hrep hcall).mono ?_
      rintro e w' ⟨I',pl',k1,k2,⟨u,rfl,k3⟩,k4⟩
      have hput:=h.put (dst:=none) (x := .undef) (v:=undef) k1 k2 (fun b hb=>k4 b (.inl (by omega))) rfl (by simp only [Rep])
      exact hQ _ _ I' pl' u hput k3 (fun b hb=>k4 b hb)
   ·cases hs
  ·cases hs
  ·rename_i x hop
   split at hs
   ·rename_i t v hx
    simp only [Option.some.injEq,Prod.mk.injEq] at hs
    obtain⟨rfl,rfl⟩:=hs
    intro hQ
    rw [if_pos hw']
    left
    have hxv:=hev _ _ hx
    simp only [Rep] at hxv
    obtain⟨u,hxv,hu⟩:=hxv
    have hrun:(execOp a.eval o).run P w = .halt (.panic (.iface t u)) w:=by
     simp [execOp,hop,hxv,Instr.panic]
    unfold Oper.wp
    rw [hrun]
    exact hQ _ _ I pl (.iface t u) h (by simp only [Rep];exact⟨u,rfl,hu⟩) (fun _ _=>rfl)
   ·cases hs
  ·cases hop:opD G base o fr hp with
   | none=>simp [hop] at hs
   | some q =>
     obtain⟨v,up'⟩:=q
     simp only [hop,Option.map_some,Option.some.injEq,Prod.mk.injEq] at hs
     obtain⟨rfl,rfl⟩:=hs
     intro hlt hK
     rw [if_pos hw']
     left
     obtain⟨res,u,w',I',pl',k1,k2,k3,k4,k5,k6⟩:=op_ok (P:=P) hG h.hr (hfree base (Nat.le_refl _) (by omega)).1 hev (fun _=>rfl) hop
     refine wp_value k1 k2 ?_
     exact hK _ _ I' pl' (h.put k4 k5 (fun b hb=>k6 b (by omega)) (putF_putO _ hlt) k3) (fun b hb=>k6 b (by omega))
theorem opv_local{ops:Array Oper}{o:Oper}(h1:∀ t∈o.looksAt ops,look t fr'=look t fr):∀ x∈o.op.operands.toList,opv fr' x=opv fr x:=by
 intro x hx
 cases x with
 | tmp t =>
   refine h1 t ?_
   unfold Oper.looksAt
   exact List.mem_append_left _ (List.mem_filterMap.2 ⟨_,hx,rfl⟩)
 | _=>rfl
theorem wantD_local{ops:Array Oper}{o:Oper}(h1:∀ t∈o.looksAt ops,look t fr'=look t fr):wantD ops o fr'=wantD ops o fr:=by
 unfold wantD
 cases hg:o.guard with
 | none=>rfl
 | some q =>
   obtain⟨j,want⟩:=q
   simp only
   cases hd:(ops[j]?).bind (·.dst) with
   | none=>rfl
   | some t =>
     simp only
     rw [h1 t (by
      unfold Oper.looksAt
      refine List.mem_append_right _ ?_
      simp only [hg,hd]
      simp)]
theorem stepD_local{call:CallF}{base:Nat}{ops:Array Oper}{o:Oper}(h1:∀ t∈o.looksAt ops,look t fr'=look t fr)(h2:∀ b∈rkD o fr hp,look b hp'=look b hp) :
  stepD G call base ops o fr' hp'=stepD G call base ops o fr hp:=by
 have hv:=opv_local h1
 unfold stepD
 rw [wantD_local h1]
 cases wantD ops o fr with
 | none=>rfl
 | some t =>
   cases t with
   | false=>rfl
   | true =>
     simp only
     split
     ·rename_i f args at' hop
      have e1:opv fr' f=opv fr f:=hv f (by simp [hop,Op.operands,Call.operands])
      have e2:argsD fr' args.toList=argsD fr args.toList:=argsD_local _ (fun x hx=>hv x (by simp [hop,Op.operands,Call.operands];exact .inr (by simpa using hx)))
      rw [e1,e2]
      split
      ·rename_i g caps l hf hl
       refine callD_local (fun b hb=>h2 b ?_)
       simp only [rkD,hop,hf,hl]
       exact hb
      ·rfl
     ·rfl
     ·rename_i x hop
      rw [hv x (by simp [hop,Op.operands])]
     ·rename_i n1 n2 n3
      rw [opD_local hv (fun x hx v hxv b hb=>h2 b ?_)]
      unfold rkD
      split
      ·rename_i f args at' hop
       exact absurd hop (n1 f args at')
      ·refine List.mem_flatMap.2 ⟨x,hx,?_⟩
       simp only [hxv]
       exact hb
end
abbrev allS:Nat→Bool:=fun _=>true
section
variable {fr : Fr} {hp : Hp}
theorem frOf_append(S:Nat→Bool):∀(D1 D2:List Rec),frOf S fr (D1++D2)=frOf S (frOf S fr D2) D1
 | [],D2=>rfl
 | r::D1,D2=>by
   simp only [List.cons_append,frOf,frOf_append S D1 D2]
theorem hpOf_append(S:Nat→Bool):∀(D1 D2:List Rec),hpOf S hp (D1++D2)=hpOf S (hpOf S hp D2) D1
 | [],D2=>rfl
 | r::D1,D2=>by
   simp only [List.cons_append,hpOf,hpOf_append S D1 D2]
theorem frOf_ext{S S':Nat→Bool}:∀(D:List Rec),(∀ q∈D,S q.i=S' q.i)→frOf S fr D=frOf S' fr D
 | [],_=>rfl
 | r::D,h=>by
   simp only [frOf,h r (by simp),frOf_ext D (fun q hq=>h q (by simp [hq]))]
theorem hpOf_ext{S S':Nat→Bool}:∀(D:List Rec),(∀ q∈D,S q.i=S' q.i)→hpOf S hp D=hpOf S' hp D
 | [],_=>rfl
 | r::D,h=>by
   simp only [hpOf,h r (by simp),hpOf_ext D (fun q hq=>h q (by simp [hq]))]
theorem frOf_skip{S:Nat→Bool}:∀(D:List Rec),(∀ q∈D,S q.i=false)→frOf S fr D=fr
 | [],_=>rfl
 | r::D,h=>by
   simp only [frOf,h r (by simp),frOf_skip D (fun q hq=>h q (by simp [hq]))]
   simp
theorem hpOf_skip{S:Nat→Bool}:∀(D:List Rec),(∀ q∈D,S q.i=false)→hpOf S hp D=hp
 | [],_=>rfl
 | r::D,h=>by
   simp only [hpOf,h r (by simp),hpOf_skip D (fun q hq=>h q (by simp [hq]))]
   simp
theorem look_putO(t:Nat)(fr:Fr)(d:Option Nat)(v:AV):look t (putO fr d v)=if d=some t then some v else look t fr:=by
 cases d with
 | none=>simp [putO]
 | some s =>
   simp only [putO,look_cons]
   by_cases e:t=s
   ·subst e;simp
   ·rw [if_neg e,if_neg (by simpa using fun h=>e h.symm)]
theorem frOf_same{S S':Nat→Bool}{t:Nat}:∀(D:List Rec),(∀ q∈D,S q.i≠S' q.i→q.dst≠some t)→look t (frOf S fr D)=look t (frOf S' fr D)
 | [],_=>rfl
 | r::D,h=>by
   have ih:=frOf_same (S:=S) (S':=S') (t:=t) D (fun q hq=>h q (by simp [hq]))
   have hr:=h r (by simp)
   simp only [frOf]
   by_cases e:S r.i=S' r.i
   ·rw [e]
    split
    ·rw [look_putO,look_putO,ih]
    ·exact ih
   ·have:=hr e
    split<;>split<;>simp [look_putO,this,ih]
theorem hpOf_same{S S':Nat→Bool}{b:Nat}:∀(D:List Rec),(∀ q∈D,S q.i≠S' q.i→look b q.up=none)→look b (hpOf S hp D)=look b (hpOf S' hp D)
 | [],_=>rfl
 | r::D,h=>by
   have ih:=hpOf_same (S:=S) (S':=S') (b:=b) D (fun q hq=>h q (by simp [hq]))
   have hr:=h r (by simp)
   simp only [hpOf]
   by_cases e:S r.i=S' r.i
   ·rw [e]
    split
    ·rw [look_append,look_append,ih]
    ·exact ih
   ·have:=hr e
    split<;>split<;>simp [look_append,this,ih]
theorem frOf_put{S:Nat→Bool}{d:Option Nat}{v:AV}(t:Nat):∀(D:List Rec),(∀ q∈D,S q.i=true→∀ s,d=some s→q.dst≠some s)→look t (frOf S (putO fr d v) D)=look t (putO (frOf S fr D) d v)
 | [],_=>rfl
 | r::D,h=>by
   have ih:=frOf_put (S:=S) (d:=d) (v:=v) t D (fun q hq=>h q (by simp [hq]))
   have hr:=h r (by simp)
   simp only [frOf]
   split
   ·rename_i hs
    rw [look_putO,look_putO,look_putO,ih,look_putO]
    by_cases e1:r.dst=some t<;>by_cases e2:d=some t
    ·exact absurd e1 (hr hs t e2)
    ·simp [e1,e2]
    ·simp [e1,e2]
    ·simp [e1,e2]
   ·exact ih
theorem hpOf_put{S:Nat→Bool}{up:Hp}(b:Nat):∀(D:List Rec),(∀ q∈D,S q.i=true→look b up≠none→look b q.up=none)→look b (hpOf S (up++hp) D)=look b (up++hpOf S hp D)
 | [],_=>rfl
 | r::D,h=>by
   have ih:=hpOf_put (S:=S) (up:=up) b D (fun q hq=>h q (by simp [hq]))
   have hr:=h r (by simp)
   simp only [hpOf]
   split
   ·rename_i hs
    rw [look_append,ih,look_append,look_append,look_append]
    cases hu:look b up with
    | none=>simp
    | some o=>simp [hr hs (by simp [hu])]
   ·exact ih
theorem hpOf_none{S:Nat→Bool}{b:Nat}(h0:look b hp=none):∀(D:List Rec),(∀ q∈D,S q.i=true→look b q.up=none)→look b (hpOf S hp D)=none
 | [],_=>h0
 | r::D,h=>by
   have ih:=hpOf_none (S:=S) h0 D (fun q hq=>h q (by simp [hq]))
   simp only [hpOf]
   split
   ·rename_i hs
    simp [look_append,h r (by simp) hs,ih]
   ·exact ih
end
theorem hasN_iff{b:Nat}:∀{l:List Nat},hasN b l=true↔b∈l
 | []=>by simp [hasN]
 | c::r=>by
   simp only [hasN,Bool.or_eq_true,List.mem_cons,hasN_iff (l:=r)]
   exact or_congr_left ⟨fun h=>Nat.eq_of_beq_eq_true h,fun h=>by subst h;exact Nat.beq_refl b⟩
theorem hasK_look{b:Nat}:∀{l:Hp},hasK b l=false→look b l=none
 | [],_=>rfl
 | (c,o)::r,h=>by
   simp only [hasK,Bool.or_eq_false_iff] at h
   unfold look
   rw [h.1]
   exact hasK_look h.2
theorem look_mem{α:Type}{b:Nat}{o:α}:∀{l:List (Nat×α)},look b l=some o→(b,o)∈l
 | [],h=>by cases h
 | (c,x)::r,h=>by
   rw [look_cons] at h
   split at h
   ·rename_i e
    subst e
    injection h with h
    subst h
    simp
   ·exact List.mem_cons_of_mem _ (look_mem h)
theorem neO_ne{s t:Option Nat}(h:neO s t=true){x:Nat}(hs:s=some x):t≠some x:=by
 subst hs
 intro e
 subst e
 simp [neO] at h
theorem apart_lk{r q:Rec}(h:apart r q=true){t:Nat}(ht:t∈r.lk):q.dst≠some t:=by
 intro e
 simp only [apart,Bool.and_eq_true,Bool.not_eq_true'] at h
 have:=h.1.1.1.2
 rw [e] at this
 simp only [hasO] at this
 rw [hasN_iff.2 ht] at this
 cases this
theorem apart_lk'{r q:Rec}(h:apart r q=true){t:Nat}(ht:t∈q.lk):r.dst≠some t:=by
 intro e
 simp only [apart,Bool.and_eq_true,Bool.not_eq_true'] at h
 have:=h.1.1.2
 rw [e] at this
 simp only [hasO] at this
 rw [hasN_iff.2 ht] at this
 cases this
theorem apart_rk{r q:Rec}(h:apart r q=true){b:Nat}(hb:b∈r.rk):look b q.up=none:=by
 cases hu:look b q.up with
 | none=>rfl
 | some o =>
   simp only [apart,Bool.and_eq_true,Bool.not_eq_true',List.all_eq_true] at h
   have:=(h.1.2 _ (look_mem hu)).1
   rw [hasN_iff.2 hb] at this
   cases this
theorem apart_rk'{r q:Rec}(h:apart r q=true){b:Nat}(hb:b∈q.rk):look b r.up=none:=by
 cases hu:look b r.up with
 | none=>rfl
 | some o =>
   simp only [apart,Bool.and_eq_true,Bool.not_eq_true',List.all_eq_true] at h
   have:=h.2 _ (look_mem hu)
   rw [hasN_iff.2 hb] at this
   cases this
theorem apart_up{r q:Rec}(h:apart r q=true){b:Nat}(hb:look b q.up≠none):look b r.up=none:=by
 cases hu:look b q.up with
 | none=>exact absurd hu hb
 | some o =>
   simp only [apart,Bool.and_eq_true,Bool.not_eq_true',List.all_eq_true] at h
   exact hasK_look (h.1.2 _ (look_mem hu)).2
theorem apart_dst{r q:Rec}(h:apart r q=true):neO r.dst q.dst=true:=by
 simp only [apart,Bool.and_eq_true] at h
 exact h.1.1.1.1
theorem apartAll_spec{r:Rec}:∀{D:List Rec},apartAll r D=true→∀ q∈D,Nat.testBit r.pre q.i=false→apart r q=true
 | [],_,q,hq,_=>by cases hq
 | x::D,h,q,hq,hn=>by
   simp only [apartAll,Bool.and_eq_true,Bool.or_eq_true] at h
   rcases List.mem_cons.1 hq with rfl|hq
   ·rcases h.1 with h1|h1
    ·rw [hn] at h1;cases h1
    ·exact h1
   ·exact apartAll_spec h.2 q hq hn
theorem keysOK_spec{nx i pre:Nat}:∀{up:Hp},keysOK nx i pre up=true→∀ b,look b up≠none→b<nx∨(b-nx) / 64=i∨Nat.testBit pre ((b-nx) / 64)=true
 | [],_,b,hb=>absurd rfl hb
 | (c,o)::r,h,b,hb=>by
   simp only [keysOK,Bool.and_eq_true,Bool.or_eq_true] at h
   rw [look_cons] at hb
   split at hb
   ·rename_i e
    subst e
    rcases h.1 with (h1|h1)|h1
    ·exact .inl (Nat.le_of_ble_eq_true h1)
    ·exact .inr (.inl (Nat.eq_of_beq_eq_true h1))
    ·exact .inr (.inr h1)
   ·exact keysOK_spec h.2 b hb
theorem findP_some{j:Nat}{p:Nat}:∀{D:List Rec},findP j D=some p→∃ q∈D,q.i=j∧q.pre=p
 | [],h=>by cases h
 | r::D,h=>by
   simp only [findP] at h
   split at h
   ·rename_i e
    injection h with h
    exact⟨r,by simp,(Nat.eq_of_beq_eq_true e).symm,h⟩
   ·obtain⟨q,h1,h2⟩:=findP_some h
    exact⟨q,by simp [h1],h2⟩
theorem preOf_spec{D:List Rec}:∀{es:List Edge}{p:Nat},preOf D es=some p →
  (∀ e∈es,Region.binds .any e=true→∃ q∈D,q.i=e.on)∧(∀ k,Nat.testBit p k=true→∃ e∈es,Region.binds .any e=true∧(k=e.on∨∃ q∈D,q.i=e.on∧Nat.testBit q.pre k=true))
 | [],p,h=>by
   simp only [preOf,Option.some.injEq] at h
   subst h
   exact⟨fun e he=>(by cases he),fun k hk=>by simp at hk⟩
 | e::es,p,h=>by
   simp only [preOf] at h
   split at h
   ·cases h
   ·rename_i p0 hp0
    obtain⟨i1,i2⟩:=preOf_spec hp0
    split at h
    ·rename_i hb
     split at h
     ·cases h
     ·rename_i q0 hq0
      injection h with h
      subst h
      obtain⟨q,hq1,hq2,rfl⟩:=findP_some hq0
      refine⟨?_,?_⟩
      ·intro e' he' hb'
       rcases List.mem_cons.1 he' with rfl|he'
       ·exact⟨q,hq1,hq2⟩
       ·exact i1 e' he' hb'
      ·intro k hk
       rw [Nat.testBit_or,Nat.testBit_or,Nat.testBit_two_pow,Bool.or_eq_true,Bool.or_eq_true] at hk
       rcases hk with (hk|hk)|hk
       ·obtain⟨e',h1,h2⟩:=i2 k hk
        exact⟨e',by simp [h1],h2⟩
       ·exact⟨e,by simp,hb,.inr ⟨q,hq1,hq2,hk⟩⟩
       ·exact⟨e,by simp,hb,.inl (of_decide_eq_true hk).symm⟩
    ·rename_i hb
     injection h with h
     subst h
     refine⟨?_,?_⟩
     ·intro e' he' hb'
      rcases List.mem_cons.1 he' with rfl|he'
      ·exact absurd hb' hb
      ·exact i1 e' he' hb'
     ·intro k hk
      obtain⟨e',h1,h2⟩:=i2 k hk
      exact⟨e',by simp [h1],h2⟩
abbrev Pan:=Option (Nat×Nat×Hp×AV)
structure RecBase(ops:Array Oper)(fr:Fr)(hp:Hp)(D:List Rec)(r:Rec)(o:Oper):Prop where
 lk:r.lk=o.looksAt ops
 rk:r.rk=rkD o (frOf allS fr D) (hpOf allS hp D)
 apart:apartAll r D=true
def RecOK(G:Gl)(call:CallF)(nt nx:Nat)(ops:Array Oper)(fr:Fr)(hp:Hp)(pan:Pan)(D:List Rec)(r:Rec):Prop :=
 r.i=D.length∧∃ o,ops[r.i]?=some o∧preOf D o.after.toList=some r.pre ∧
  ((∃ p,pan=some p∧Nat.testBit r.pre p.1=true∧r.dst=none∧r.up=[]) ∨
   (RecBase ops fr hp D r o∧stepD G call (nx+64*r.i) ops o (frOf allS fr D) (hpOf allS hp D)=some (.ret r.v,r.up)∧ltO nt o.dst=true∧r.dst=o.dst∧keysOK nx r.i r.pre r.up=true∧∀ p,pan=some p→p.1≠r.i) ∨
   (RecBase ops fr hp D r o∧∃ up v,pan=some (r.i,r.pre,up,v)∧stepD G call (nx+64*r.i) ops o (frOf allS fr D) (hpOf allS hp D)=some (.pan v,up)∧r.dst=none∧r.up=[]∧keysOK nx r.i r.pre up=true))
def Good(G:Gl)(call:CallF)(nt nx:Nat)(ops:Array Oper)(fr:Fr)(hp:Hp)(pan:Pan):List Rec→Prop
 | []=>True
 | r::D=>RecOK G call nt nx ops fr hp pan D r∧Good G call nt nx ops fr hp pan D
section
variable {G : Gl} {call : CallF} {nt nx : Nat} {ops : Array Oper} {fr : Fr} {hp : Hp} {pan : Pan}
theorem Good.some{p:Nat×Nat×Hp×AV}:∀{D:List Rec},D.length≤p.1→Good G call nt nx ops fr hp none D→Good G call nt nx ops fr hp (some p) D
 | [],_,_=>True.intro
 | r::D,hl,⟨⟨h1,o,h2,h3,h4⟩,h5⟩=>by
   rw [List.length_cons] at hl
   refine⟨⟨h1,o,h2,h3,?_⟩,Good.some (by omega) h5⟩
   rcases h4 with ⟨p,h,_⟩|⟨k1,k2,k3,k4,k5,k6⟩|⟨_,up,v,h,_⟩
   ·cases h
   ·exact .inr (.inl ⟨k1,k2,k3,k4,k5,fun q hq=>by injection hq with hq;subst hq;omega⟩)
   ·cases h
theorem Good.split:∀{D:List Rec},Good G call nt nx ops fr hp pan D→(∀ q∈D,q.i<D.length)∧∀ r∈D,∃ D1 D2,D=D1++r::D2∧RecOK G call nt nx ops fr hp pan D2 r∧Good G call nt nx ops fr hp pan D2∧(∀ q∈D1,r.i<q.i)∧∀ q∈D2,q.i<r.i
 | [],_=>⟨fun q hq=>(by cases hq),fun q hq=>by cases hq⟩
 | x::D,⟨h1,h2⟩=>by
   obtain⟨i1,i2⟩:=Good.split h2
   refine⟨?_,?_⟩
   ·intro q hq
    rcases List.mem_cons.1 hq with rfl|hq
    ·rw [h1.1,List.length_cons];omega
    ·have:=i1 q hq
     rw [List.length_cons];omega
   ·intro r hr
    rcases List.mem_cons.1 hr with rfl|hr'
    ·exact⟨[],D,rfl,h1,h2,fun q hq=>(by cases hq),fun q hq=>by rw [h1.1];exact i1 q hq⟩
    ·obtain⟨D1,D2,e,k1,k2,k3,k4⟩:=i2 r hr'
     refine⟨x::D1,D2,by rw [e];rfl,k1,k2,?_,k4⟩
     intro q hq
     rcases List.mem_cons.1 hq with rfl|hq
     ·rw [h1.1];exact i1 r hr'
     ·exact k3 q hq
theorem Good.has:∀{D:List Rec},Good G call nt nx ops fr hp pan D→∀ i,i<D.length→∃ r∈D,r.i=i
 | [],_,i,h=>by simp at h
 | x::D,⟨h1,h2⟩,i,h=>by
   rw [List.length_cons] at h
   by_cases e:i=D.length
   ·exact⟨x,by simp,by rw [h1.1,e]⟩
   ·obtain⟨r,k1,k2⟩:=Good.has h2 i (by omega)
    exact⟨r,by simp [k1],k2⟩
theorem drawGo_good:∀(l:List Nat){s s':DS}{n:Nat},drawGo G call nt nx ops l s=some s'→l=List.range' s.D.length n→Good G call nt nx ops fr hp s.pan s.D→s.fr=frOf allS fr s.D→s.hp=hpOf allS hp s.D→(∀ p,s.pan=some p→p.1<s.D.length) →
  Good G call nt nx ops fr hp s'.pan s'.D∧s'.fr=frOf allS fr s'.D∧s'.hp=hpOf allS hp s'.D∧s'.D.length=s.D.length+n∧∀ p,s'.pan=some p→p.1<s'.D.length
 | [],s,s',n,h,hl,h1,h2,h3,hp1=>by
   simp only [drawGo,Option.some.injEq] at h
   subst h
   have:n=0:=by
    have:=congrArg List.length hl
    simpa using this.symm
   subst this
   exact⟨h1,h2,h3,rfl,hp1⟩
 | i::l,s,s',n,h,hl,h1,h2,h3,hp1=>by
   obtain⟨D,sf,sh,sp⟩:=s
   simp only at h1 h2 h3 hl hp1 ⊢
   obtain⟨m,rfl⟩:∃ m,n=m+1:=by
    cases n with
    | zero=>simp at hl
    | succ m=>exact⟨m,rfl⟩
   rw [List.range'_succ,List.cons.injEq] at hl
   obtain⟨rfl,hl⟩:=hl
   unfold drawGo at h
   simp only at h
   split at h
   ·cases h
   ·rename_i o ho
    split at h
    ·cases h
    ·rename_i pre hpre
     split at h
     ·rename_i hdead
      have:=drawGo_good l (n:=m) h (by simpa using hl) ⟨⟨rfl,o,ho,hpre,.inl ?_⟩,h1⟩ (by simpa [frOf,putO] using h2) (by simpa [hpOf] using h3) (fun p hp=>by have:=hp1 p hp;simp only [List.length_cons];omega)
      ·simpa [Nat.add_assoc,Nat.add_comm 1] using this
      ·unfold DS.dead at hdead
       split at hdead
       ·cases hdead
       ·rename_i p hp
        exact⟨p,hp,hdead,rfl,rfl⟩
     ·split at h
      ·cases h
      ·rename_i v up hst
       split at h
       ·rename_i hc
        simp only [Bool.and_eq_true] at hc
        have:=drawGo_good l (n:=m) h (by simpa using hl) ⟨⟨rfl,o,ho,hpre,.inr (.inl ⟨⟨rfl,by rw [← h2,← h3],hc.2⟩,by rw [← h2,← h3];exact hst,hc.1.1,rfl,hc.1.2,fun p hp=>by have:=hp1 p hp;simp only;omega⟩)⟩,h1⟩ (by simp [frOf,h2]) (by simp [hpOf,h3]) (fun p hp=>by have:=hp1 p hp;simp only [List.length_cons];omega)
        simpa [Nat.add_assoc,Nat.add_comm 1] using this
       ·cases h
      ·rename_i v up hst
       split at h
       ·rename_i hc
        simp only [Bool.and_eq_true,Option.isNone_iff_eq_none] at hc
        obtain⟨⟨rfl,hc1⟩,hc2⟩:=hc
        have:=drawGo_good l (n:=m) h (by simpa using hl) ⟨⟨rfl,o,ho,hpre,.inr (.inr ⟨⟨rfl,by rw [← h2,← h3],hc2⟩,up,v,rfl,by rw [← h2,← h3];exact hst,rfl,rfl,hc1⟩)⟩,h1.some (Nat.le_refl _)⟩ (by simpa [frOf,putO] using h2) (by simpa [hpOf] using h3) (fun p hp=>by injection hp with hp;subst hp;simp)
        simpa [Nat.add_assoc,Nat.add_comm 1] using this
       ·cases h
end
theorem HR.sub{w:World}{I:Nat→Prop}{pl:Plan}{hp hp':Hp}(h:∀ b o,look b hp'=some o→look b hp=some o)(hr:HR w I pl hp):HR w I pl hp' where
 obj:=fun b o hb=>hr.obj b o (h b o hb)
 inj:=fun b b' o o' g sz cap sz' cap' h1 h2=>hr.inj b b' o o' g sz cap sz' cap' (h _ _ h1) (h _ _ h2)
 imm:=hr.imm
 dis:=fun g ⟨b,o,sz,cap,h1,h2,h3⟩=>hr.dis g ⟨b,o,sz,cap,h _ _ h1,h2,h3⟩
 low:=fun g ⟨b,o,sz,cap,h1,h2,h3⟩=>hr.low g ⟨b,o,sz,cap,h _ _ h1,h2,h3⟩
 gv:=hr.gv
theorem Stp.sub{w w':World}{I I':Nat→Prop}{pl pl':Plan}{hp hp1 hp2:Hp}(h:∀ b o,look b hp2=some o→look b hp1=some o)(hs:Stp w I pl hp w' I' pl' hp1):Stp w I pl hp w' I' pl' hp2 :=
 { hs with own:=fun g ⟨b,o,sz,cap,h1,h2,h3⟩=>hs.own g ⟨b,o,sz,cap,h _ _ h1,h2,h3⟩ }
section
variable {c : Ctx} {nt : Nat} {fr fr' : Fr} {hp hp' : Hp} {df : Df} {a : Act} {w : World} {I : Nat → Prop} {pl : Plan}
theorem SR.congr(h1:∀ t,look t fr'=look t fr)(h2:∀ b,look b hp'=look b hp)(h:SR c nt fr hp df a w I pl):SR c nt fr' hp' df a w I pl :=
 ⟨h.hr.congr h2,fun t x hx=>h.fr t x (by rw [← h1];exact hx),h.sz,h.stp.congr h2,h.win,h.df⟩
theorem SR.sub(h1:FR fr' a.tmps w I pl)(h2:∀ b o,look b hp'=some o→look b hp=some o)(h:SR c nt fr hp df a w I pl):SR c nt fr' hp' df a w I pl :=
 ⟨h.hr.sub h2,h1,h.sz,h.stp.sub h2,h.win,h.df⟩
theorem mask_fr{S:Nat→Bool}(hsz:a.tmps.size=nt):∀(D:List Rec),(∀ q∈D,ltO nt q.dst=true)→FR (frOf S fr D) a.tmps w I pl →
  ∀ t x,look t (maskOf fr D)=some x→(x = .undef∧t<nt)∨((∀ q∈D,q.dst≠some t)∧look t fr=some x)
 | [],_,hf,t,x,hx => .inr ⟨fun q hq=>(by cases hq),hx⟩
 | r::D,hlt,hf,t,x,hx=>by
   have key:∀(D:List Rec),(∀ q∈D,ltO nt q.dst=true)→∀ t x,look t (maskOf fr D)=some x→(x = .undef∧t<nt)∨((∀ q∈D,q.dst≠some t)∧look t fr=some x):=by
    intro D
    induction D with
    | nil=>intro _ t x hx;exact .inr ⟨fun q hq=>(by cases hq),hx⟩
    | cons r D ih =>
      intro hlt t x hx
      simp only [maskOf] at hx
      rw [look_putO] at hx
      split at hx
      ·rename_i e
       injection hx with hx
       have:=hlt r (by simp)
       rw [e] at this
       exact .inl ⟨hx.symm,Nat.le_of_ble_eq_true this⟩
      ·rename_i e
       rcases ih (fun q hq=>hlt q (by simp [hq])) t x hx with h|⟨h1,h2⟩
       ·exact .inl h
       ·refine .inr ⟨fun q hq=>?_,h2⟩
        rcases List.mem_cons.1 hq with rfl|hq
        ·exact e
        ·exact h1 q hq
   exact key (r::D) hlt t x hx
theorem mask_ok{S:Nat→Bool}(hsz:a.tmps.size=nt)(D:List Rec)(hlt:∀ q∈D,ltO nt q.dst=true)(hf:FR (frOf S fr D) a.tmps w I pl):FR (maskOf fr D) a.tmps w I pl:=by
 intro t x hx
 rcases mask_fr hsz D hlt hf t x hx with ⟨rfl,h⟩|⟨h1,h2⟩
 ·exact⟨a.tmps[t]'(by omega),by rw [Array.getElem?_eq_getElem],by simp only [Rep]⟩
 ·refine hf t x ?_
  rw [frOf_same (S':=fun _=>false) D (fun q hq _=>h1 q hq),frOf_skip D (fun _ _=>rfl)]
  exact h2
end
theorem besideOK_spec{p pre:Nat}{hpP:Hp}:∀{D:List Rec},besideOK p pre hpP D=true→∀ q∈D,Nat.testBit pre q.i=false→∀ b o,look b hpP=some o→look b q.up=none
 | [],_,q,hq=>by cases hq
 | r::D,h,q,hq=>by
   simp only [besideOK,Bool.and_eq_true,Bool.or_eq_true] at h
   rcases List.mem_cons.1 hq with rfl|hq
   ·intro hn b o hb
    rcases h.1 with h1|h1
    ·rw [hn] at h1;cases h1
    ·cases hu:look b q.up with
     | none=>rfl
     | some x =>
       have:=List.all_eq_true.1 h1 _ (look_mem hu)
       simp only [hb] at this
       cases this
   ·exact besideOK_spec h.2 q hq
def left(S:Nat→Bool)(n:Nat):Nat:=((List.range n).filter fun i => !S i).length
theorem filter_lt{p q:Nat→Bool}:∀(l:List Nat),(∀ j,q j=true→p j=true)→∀ i∈l,p i=true→q i=false→(l.filter q).length<(l.filter p).length
 | [],_,i,hi,_,_=>by cases hi
 | x::l,h,i,hi,hp,hq=>by
   have mono:∀(l:List Nat),(l.filter q).length≤(l.filter p).length:=by
    intro l
    induction l with
    | nil=>simp
    | cons y l ih =>
      simp only [List.filter_cons]
      cases hqy:q y with
      | true=>simp [h y hqy,ih]
      | false=>cases hpy:p y<;>simp<;>omega
   rcases List.mem_cons.1 hi with rfl|hi
   ·simp only [List.filter_cons,hp,hq]
    have:=mono l
    simp
    omega
   ·have ih:=filter_lt l h i hi hp hq
    simp only [List.filter_cons]
    cases hqy:q x with
    | true=>simp [h x hqy,ih]
    | false=>cases hpy:p x<;>simp<;>omega
section
variable {G : Gl} {P : Program} {c : Ctx} {nt nx : Nat} {ops : Array Oper} {fr : Fr} {hp : Hp} {df : Df} {pan : Pan} {call : CallF}
abbrev lst(listed:Array Bool):Nat→Bool:=fun j=>listed.getD j false
structure Inv(c:Ctx)(nt nx:Nat)(ops:Array Oper)(fr:Fr)(hp:Hp)(df:Df)(pan:Pan)(D:List Rec)(listed:Array Bool)(a:Act)(w:World)(I:Nat→Prop)(pl:Plan):Prop where
 size:listed.size=ops.size
 down:∀ q∈D,lst listed q.i=true→∀ k,Nat.testBit q.pre k=true→lst listed k=true
 pan:∀ p,pan=some p→lst listed p.1=false
 sr:SR c nt (frOf (lst listed) fr D) (hpOf (lst listed) hp D) df a w I pl
 own:∀ i,i<ops.size→lst listed i=false→∀ b,nx+64*i≤b→b<nx+64*i+64→pl b=none
 top:∀ b,nx+64*ops.size≤b→pl b=none
theorem ready_spec{listed:Array Bool}(hs:listed.size=ops.size){i:Nat}:i∈Region.ready .any ops listed↔i<ops.size∧lst listed i=false∧∃ o,ops[i]?=some o∧∀ e∈o.after,Region.binds .any e=true→lst listed e.on=true:=by
 unfold Region.ready
 simp only [List.mem_filter,List.mem_range,Bool.and_eq_true,Bool.not_eq_true']
 constructor
 ·rintro⟨h1,h2,h3⟩
  have hg:listed.getD i true=listed.getD i false:=by
   simp [Array.getD,hs,h1]
  cases ho:ops[i]? with
  | none=>simp [ho] at h3
  | some o =>
    simp only [ho,Option.map_some,Option.getD_some,Array.all_eq_true_iff_forall_mem] at h3
    refine⟨h1,by unfold lst;rw [← hg];exact h2,o,rfl,fun e he hb=>?_⟩
    have:=h3 e he
    simpa [hb] using this
 ·rintro⟨h1,h2,o,ho,h3⟩
  have hg:listed.getD i true=listed.getD i false:=by
   simp [Array.getD,hs,h1]
  refine⟨h1,by rw [hg];exact h2,?_⟩
  simp only [ho,Option.map_some,Option.getD_some,Array.all_eq_true_iff_forall_mem]
  intro e he
  cases hb:Region.binds .any e with
  | true=>simpa [hb] using h3 e he hb
  | false=>simp
theorem lst_set{listed:Array Bool}{i:Nat}(h:i<listed.size)(j:Nat):lst (listed.setIfInBounds i true) j=(decide (j=i)||lst listed j):=by
 unfold lst
 by_cases e:j=i
 ·subst e
  simp [Array.getD,h]
 ·have:¬ i=j:=fun h=>e h.symm
  simp only [Array.getD,e,decide_false,Bool.false_or,Array.size_setIfInBounds]
  split
  ·exact Array.getElem_setIfInBounds_ne _ this
  ·rfl
theorem all_listed{D:List Rec}(hg:Good G call nt nx ops fr hp pan D)(hl:D.length=ops.size){listed:Array Bool}(hs:listed.size=ops.size)(hr:Region.ready .any ops listed=[]):∀ i,i<ops.size→lst listed i=true:=by
 intro i
 induction i using Nat.strongRecOn with
 | _ i ih =>
   intro hi
   cases hb:lst listed i with
   | true=>rfl
   | false =>
     exfalso
     obtain⟨r,hr1,rfl⟩:=hg.has i (by omega)
     obtain⟨D1,D2,e,⟨k1,o,k2,k3,k4⟩,k5,k6,k7⟩:=hg.split.2 r hr1
     have:r.i∈Region.ready .any ops listed:=by
      refine(ready_spec hs).2 ⟨hi,hb,o,k2,fun e he hbe=>?_⟩
      obtain⟨q,q1,q2⟩:=(preOf_spec k3).1 e (by simpa using he) hbe
      have:=k7 q q1
      rw [← q2]
      exact ih q.i this (by omega)
     rw [hr] at this
     cases this
theorem Inv.alive{D:List Rec}(hg:Good G call nt nx ops fr hp pan D){listed:Array Bool}(hpan:∀ p,pan=some p→lst listed p.1=false)(hdown:∀ q∈D,lst listed q.i=true→∀ k,Nat.testBit q.pre k=true→lst listed k=true)
  {q:Rec} (hq:q∈D) (hs:lst listed q.i=true):∃ D2 o,(∀ x∈D,x.i<q.i→x∈D2)∧RecBase ops fr hp D2 q o∧ltO nt q.dst=true∧keysOK nx q.i q.pre q.up=true:=by
 obtain⟨D1,D2,e,⟨k1,o,k2,k3,k4⟩,k5,k6,k7⟩:=hg.split.2 q hq
 have hm:∀ x∈D,x.i<q.i→x∈D2:=by
  intro x hx hlt
  rw [e] at hx
  rcases List.mem_append.1 hx with h|h
  ·have:=k6 x h;omega
  ·rcases List.mem_cons.1 h with rfl|h
   ·omega
   ·exact h
 rcases k4 with ⟨p,h1,h2,h3,h4⟩|⟨h1,h2,h3,h4,h5,h6⟩|⟨h1,up,v,h2,h3⟩
 ·have:=hdown q hq hs p.1 h2
  rw [hpan p h1] at this
  cases this
 ·exact⟨D2,o,hm,h1,by rw [h4];exact h3,h5⟩
 ·have:=hpan _ h2
  rw [hs] at this
  cases this
theorem Inv.view{D:List Rec}(hg:Good G call nt nx ops fr hp pan D){listed:Array Bool}(hpan:∀ p,pan=some p→lst listed p.1=false)(hdown:∀ q∈D,lst listed q.i=true→∀ k,Nat.testBit q.pre k=true→lst listed k=true)
  {D1 D2:List Rec} {r:Rec} (e:D=D1++r::D2) (k6:∀ q∈D1,r.i<q.i) (k7:∀ q∈D2,q.i<r.i) (hi:lst listed r.i=false) (hpre:∀ k,Nat.testBit r.pre k=true→lst listed k=true) {o:Oper} (hb:RecBase ops fr hp D2 r o) :
  (∀ q∈D,lst listed q.i=true→r.i<q.i→apart q r=true) ∧
  (∀ t∈o.looksAt ops,look t (frOf (lst listed) fr D)=look t (frOf allS fr D2))∧(∀ b∈rkD o (frOf allS fr D2) (hpOf allS hp D2),look b (hpOf (lst listed) hp D)=look b (hpOf allS hp D2)):=by
 have hr:r∈D:=by rw [e];simp
 have hup:∀ q∈D,lst listed q.i=true→r.i<q.i→apart q r=true:=by
  intro q hq hs hlt
  obtain⟨Dq,oq,h1,h2,h3,h4⟩:=Inv.alive hg hpan hdown hq hs
  refine apartAll_spec h2.apart r (h1 r hr hlt) ?_
  cases hb:Nat.testBit q.pre r.i with
  | false=>rfl
  | true =>
    have:=hdown q hq hs _ hb
    rw [hi] at this
    cases this
 have hdiff:∀ q∈D,lst listed q.i≠decide (q.i<r.i)→apart q r=true∨apart r q=true:=by
  intro q hq hne
  by_cases hlt:q.i<r.i
  ·have hs:lst listed q.i=false:=by
    cases hb:lst listed q.i with
    | false=>rfl
    | true=>rw [hb] at hne;simp [hlt] at hne
   right
   refine apartAll_spec hb.apart q ?_ ?_
   ·rw [e] at hq
    rcases List.mem_append.1 hq with h|h
    ·have:=k6 q h;omega
    ·rcases List.mem_cons.1 h with rfl|h
     ·omega
     ·exact h
   ·cases hb:Nat.testBit r.pre q.i with
    | false=>rfl
    | true =>
      have:=hpre _ hb
      rw [hs] at this
      cases this
  ·have hs:lst listed q.i=true:=by
    cases hb:lst listed q.i with
    | true=>rfl
    | false=>rw [hb] at hne;simp [hlt] at hne
   have:q.i≠r.i:=fun h=>by rw [h,hi] at hs;cases hs
   exact .inl (hup q hq hs (by omega))
 have hself:(decide (r.i<r.i))=false:=by simp
 have sk1:∀ q∈D1,(fun j=>decide (j<r.i)) q.i=false:=fun q hq=>by have:=k6 q hq;simp;omega
 have al2:∀ q∈D2,(fun j=>decide (j<r.i)) q.i=allS q.i:=fun q hq=>by have:=k7 q hq;simp [this]
 refine⟨hup,?_,?_⟩
 ·intro t ht
  rw [← hb.lk] at ht
  rw [frOf_same (S':=fun j=>decide (j<r.i)) D (fun q hq hne=>by
   rcases hdiff q hq hne with h|h
   ·exact fun e=>(apart_lk' h ht) e
   ·exact apart_lk h ht)]
  rw [e,frOf_append,frOf_skip D1 sk1]
  simp only [frOf,hself]
  rw [if_neg (by simp),frOf_ext D2 al2]
 ·intro b hbk
  rw [← hb.rk] at hbk
  rw [hpOf_same (S':=fun j=>decide (j<r.i)) D (fun q hq hne=>by
   rcases hdiff q hq hne with h|h
   ·exact apart_rk' h hbk
   ·exact apart_rk h hbk)]
  rw [e,hpOf_append,hpOf_skip D1 sk1]
  simp only [hpOf,hself]
  rw [if_neg (by simp),hpOf_ext D2 al2]
theorem Inv.fresh{D:List Rec}(hg:Good G call nt nx ops fr hp pan D)(h0:∀ b,nx≤b→look b hp=none){listed:Array Bool}(hpan:∀ p,pan=some p→lst listed p.1=false)(hdown:∀ q∈D,lst listed q.i=true→∀ k,Nat.testBit q.pre k=true→lst listed k=true)
  {b:Nat} (hb:nx≤b) (hn:lst listed ((b-nx) / 64)=false):look b (hpOf (lst listed) hp D)=none:=by
 refine hpOf_none (h0 b hb) D (fun q hq hs=>?_)
 obtain⟨Dq,oq,h1,h2,h3,h4⟩:=Inv.alive hg hpan hdown hq hs
 cases hu:look b q.up with
 | none=>rfl
 | some x =>
   exfalso
   rcases keysOK_spec h4 b (by simp [hu]) with h|h|h
   ·omega
   ·rw [h,hs] at hn;cases hn
   ·have:=hdown q hq hs _ h
    rw [hn] at this;cases this
theorem lst_big{listed:Array Bool}{n j:Nat}(h:listed.size=n)(hj:n≤j):lst listed j=false:=by
 unfold lst
 simp only [Array.getD]
 rw [dif_neg (by omega)]
def ResOK(fr:Fr)(hp:Hp)(df:Df)(pan:Pan)(D:List Rec)(r:RR):Prop :=
 match pan with
 | none=>r = .ok (frOf allS fr D) (hpOf allS hp D) df
 | some (p,pre,up,v)=>besideOK p pre (hpOf (Nat.testBit pre) hp D) D=true∧r = .pan (maskOf fr D) (up++hpOf (Nat.testBit pre) hp D) df v
theorem any_end{D:List Rec}(hg:Good G call nt nx ops fr hp pan D)(hl:D.length=ops.size)(h0:∀ b,nx≤b→look b hp=none)(hp1:∀ p,pan=some p→p.1<ops.size){r:RR}(hres:ResOK fr hp df pan D r)
  {listed:Array Bool} {a:Act} {w:World} {I:Nat→Prop} {pl:Plan} (hinv:Inv c nt nx ops fr hp df pan D listed a w I pl) (hr:Region.ready .any ops listed=[]):RegOK c nt r .normal a w (nx+64*ops.size):=by
 have hall:=all_listed hg hl hinv.size hr
 cases pan with
 | some p =>
   have h1:=hinv.pan p rfl
   rw [hall p.1 (hp1 p rfl)] at h1
   cases h1
 | none =>
   simp only [ResOK] at hres
   subst hres
   have ha:∀ q∈D,lst listed q.i=allS q.i:=fun q hq=>hall q.i (by have:=hg.split.1 q hq;omega)
   refine⟨rfl,I,pl,?_,fun b hb=>⟨hinv.top b hb,?_⟩⟩
   ·have:=hinv.sr
    rw [frOf_ext D ha,hpOf_ext D ha] at this
    exact this
   ·rw [← hpOf_ext D ha]
    exact Inv.fresh hg h0 hinv.pan hinv.down (by omega) (lst_big hinv.size (by omega))
set_option maxHeartbeats 1000000 in
theorem any_ok(hG:GOK G P)(hc:FnOK P call){D:List Rec}(hg:Good G call nt nx ops fr hp pan D)(hl:D.length=ops.size)(hk:c.k≤nx)(h0:∀ b,nx≤b→look b hp=none)(hp1:∀ p,pan=some p→p.1<ops.size){r:RR}(hres:ResOK fr hp df pan D r) :
  ∀(fuel:Nat)(listed:Array Bool)(a:Act)(w:World)(I:Nat→Prop)(pl:Plan),Inv c nt nx ops fr hp df pan D listed a w I pl→left (lst listed) ops.size≤fuel→wpAny P .any ops (fun e a w=>RegOK c nt r e a w (nx+64*ops.size)) fuel listed a w
 | 0,listed,a,w,I,pl,hinv,hf=>by
   have hr:Region.ready .any ops listed=[]:=by
    cases hr:Region.ready .any ops listed with
    | nil=>rfl
    | cons i l =>
      exfalso
      obtain⟨h1,h2,_⟩:=(ready_spec hinv.size (i:=i)).1 (by rw [hr];simp)
      have:(List.range ops.size).filter (fun i => !lst listed i)=[]:=List.eq_nil_of_length_eq_zero (by unfold left at hf;omega)
      have hm:i∈(List.range ops.size).filter (fun i => !lst listed i):=List.mem_filter.2 ⟨List.mem_range.2 h1,by rw [h2];rfl⟩
      rw [this] at hm
      cases hm
   exact⟨hr,any_end hg hl h0 hp1 hres hinv hr⟩
 | fuel+1,listed,a,w,I,pl,hinv,hf=>by
   refine⟨any_end hg hl h0 hp1 hres hinv,?_⟩
   intro i hi
   obtain⟨hlt,hnl,o,ho,hed⟩:=(ready_spec hinv.size).1 hi
   obtain⟨x,hx,rfl⟩:=hg.has i (by omega)
   obtain⟨D1,D2,e,⟨k1,o',k2,k3,k4⟩,k5,k6,k7⟩:=hg.split.2 x hx
   have:o'=o:=by rw [ho] at k2;exact(Option.some.inj k2).symm
   subst this
   have hpre:∀ k,Nat.testBit x.pre k=true→lst listed k=true:=by
    intro k hk
    obtain⟨ed,h1,h2,h3⟩:=(preOf_spec k3).2 k hk
    have hon:=hed ed (by simpa using h1) h2
    rcases h3 with rfl|⟨q,q1,q2,q3⟩
    ·exact hon
    ·exact hinv.down q (by rw [e];simp [q1]) (by rw [q2];exact hon) k q3
   have huniq:∀ q∈D,q.i=x.i→q=x:=by
    intro q hq he
    rw [e] at hq
    rcases List.mem_append.1 hq with h|h
    ·have:=k6 q h;omega
    ·rcases List.mem_cons.1 h with h|h
     ·exact h
     ·have:=k7 q h;omega
   have hfree:Free pl (hpOf (lst listed) hp D) (nx+64*x.i):=fun b h1 h2 =>
    ⟨hinv.own x.i hlt hnl b h1 h2,Inv.fresh hg h0 hinv.pan hinv.down (by omega) (by
     have:(b-nx) / 64=x.i:=by omega
     rw [this];exact hnl)⟩
   have hsz:x.i<listed.size:=by rw [hinv.size];exact hlt
   unfold wpOp
   simp only [ho]
   rcases k4 with ⟨p,h1,h2,h3,h4⟩|⟨hb,hst,hlo,hd,hko,hpx⟩|⟨hb,up,v,hpan,hst,hd,hup0,hko⟩
   ·exfalso
    have:=hpre _ h2
    rw [hinv.pan p h1] at this
    cases this
   ·obtain⟨v0,v1,v2⟩:=Inv.view hg hinv.pan hinv.down e k6 k7 hnl hpre hb
    have hst':=(stepD_local (G:=G) (call:=call) (base:=nx+64*x.i) v1 v2).trans hst
    refine stepD_ok hG hc hinv.sr hfree (by omega) hst' _ _ hlo ?_
    intro a' w' I' pl' h' hw
    have hset:=fun j=>lst_set hsz j
    have ext1:∀ q∈D1,lst (listed.setIfInBounds x.i true) q.i=lst listed q.i:=fun q hq=>by
     have:=k6 q hq
     rw [hset]
     have:¬ q.i=x.i:=by omega
     simp [this]
    have ext2:∀ q∈D2,lst (listed.setIfInBounds x.i true) q.i=lst listed q.i:=fun q hq=>by
     have:=k7 q hq
     rw [hset]
     have:¬ q.i=x.i:=by omega
     simp [this]
    have hxs:lst (listed.setIfInBounds x.i true) x.i=true:=by rw [hset];simp
    refine any_ok hG hc hg hl hk h0 hp1 hres fuel _ a' w' I' pl' ⟨by simpa using hinv.size,?_,?_,?_,?_,?_⟩ ?_
    ·intro q hq hs k hk
     rw [hset]
     rw [hset] at hs
     by_cases hqe:q.i=x.i
     ·have:=huniq q hq hqe
      subst this
      simp [hpre k hk]
     ·have hs':lst listed q.i=true:=by simpa [hqe] using hs
      simp [hinv.down q hq hs' k hk]
    ·intro p hp
     rw [hset,hinv.pan p hp]
     simp [hpx p hp]
    ·refine h'.congr (fun t=>?_) (fun b=>?_)
     ·rw [e,frOf_append,frOf_append]
      simp only [frOf,hxs,hnl,if_true]
      rw [frOf_ext D1 ext1,frOf_ext D2 ext2,hd]
      rw [frOf_put t D1 (fun q hq hs s hds=>?_)]
      ·simp
      ·have:=apart_dst (v0 q (by rw [e];simp [hq]) hs (k6 q hq))
       intro hqs
       exact neO_ne this hqs (by rw [hd];exact hds)
     ·rw [e,hpOf_append,hpOf_append]
      simp only [hpOf,hxs,hnl,if_true]
      rw [hpOf_ext D1 ext1,hpOf_ext D2 ext2]
      rw [hpOf_put b D1 (fun q hq hs hne=>?_)]
      ·simp
      ·exact apart_up (v0 q (by rw [e];simp [hq]) hs (k6 q hq)) hne
    ·intro j hj hn b hb1 hb2
     rw [hset] at hn
     have hne:¬ j=x.i:=fun h=>by simp [h] at hn
     have hnj:lst listed j=false:=by simpa [hne] using hn
     rw [hw b (by omega)]
     exact hinv.own j hj hnj b hb1 hb2
    ·intro b hb
     rw [hw b (by omega)]
     exact hinv.top b hb
    ·have:=filter_lt (p:=fun i => !lst listed i) (q:=fun i => !lst (listed.setIfInBounds x.i true) i) (List.range ops.size) (fun j hj=>by
      rw [hset] at hj
      simp at hj
      simp [hj.2]) x.i (List.mem_range.2 hlt) (by simp [hnl]) (by simp [hxs])
     unfold left at hf ⊢
     omega
   ·obtain⟨v0,v1,v2⟩:=Inv.view hg hinv.pan hinv.down e k6 k7 hnl hpre hb
    have hst':=(stepD_local (G:=G) (call:=call) (base:=nx+64*x.i) v1 v2).trans hst
    refine stepD_ok hG hc hinv.sr hfree (by omega) hst' _ _ ?_
    intro a' w' I' pl' u h' hu hw
    subst hpan
    simp only [ResOK] at hres
    obtain⟨hbe,rfl⟩:=hres
    have hsub:∀ b ob,look b (up++hpOf (Nat.testBit x.pre) hp D)=some ob→look b (up++hpOf (lst listed) hp D)=some ob:=by
     intro b ob hb'
     rw [look_append] at hb' ⊢
     cases hu':look b up with
     | some y=>rw [hu'] at hb';exact hb'
     | none =>
       rw [hu'] at hb'
       simp only at hb' ⊢
       rw [← hb']
       refine hpOf_same D (fun q hq hne=>?_)
       cases ht:Nat.testBit x.pre q.i with
       | true =>
         have:=hpre _ ht
         rw [ht,this] at hne
         exact absurd rfl hne
       | false=>exact besideOK_spec hbe q hq ht b ob hb'
    have hlts:∀ q∈D,ltO nt q.dst=true:=by
     intro q hq
     obtain⟨E1,E2,_,⟨_,oq,_,_,m4⟩,_⟩:=hg.split.2 q hq
     rcases m4 with ⟨_,_,_,m,_⟩|⟨_,_,m,m',_⟩|⟨_,_,_,_,_,m,_⟩
     ·rw [m];rfl
     ·rw [m'];exact m
     ·rw [m];rfl
    refine⟨u,rfl,I',pl',h'.sub (mask_ok h'.sz D hlts h'.fr) hsub,hu,fun b hb'=>⟨by rw [hw b (by omega)];exact hinv.top b hb',?_⟩⟩
    cases hlk:look b (up++hpOf (Nat.testBit x.pre) hp D) with
    | none=>rfl
    | some ob =>
      exfalso
      have:=hsub b ob hlk
      rw [look_append,Inv.fresh hg h0 hinv.pan hinv.down (b:=b) (by omega) (lst_big hinv.size (by omega))] at this
      cases hub:look b up with
      | none=>rw [hub] at this;cases this
      | some y =>
        rcases keysOK_spec hko b (by simp [hub]) with h|h|h
        ·omega
        ·omega
        ·have:=hpre _ h
         rw [lst_big hinv.size (by omega)] at this
         cases this
theorem drawD_ok(hm:P.follows .mixedOrders=true)(hG:GOK G P)(hc:FnOK P call):DrawSound P nt (drawD G call nt):=by
 intro c nx ops fr hp df r h id a w I pl hsr hnx hk
 refine wp_region_any hm ?_
 unfold drawD at h
 split at h
 ·cases h
 ·rename_i s hs
  obtain⟨g1,g2,g3,g4,g5⟩:=drawGo_good (fr:=fr) (hp:=hp) (List.range ops.size) (n:=ops.size) hs (by simp [List.range_eq_range']) True.intro rfl rfl (fun p hp=>by cases hp)
  simp only [List.length_nil,Nat.zero_add] at g4
  have hrep:∀ j,lst (Array.replicate ops.size false) j=false:=fun j=>by
   unfold lst
   simp only [Array.getD]
   split
   ·simp
   ·rfl
  refine any_ok (df:=df) hG hc g1 g4 hk (fun b hb=>(hnx b hb).2) (fun p hp=>by rw [← g4];exact g5 p hp) ?_ ops.size _ a _ I pl ⟨by simp,?_,?_,?_,?_,?_⟩ ?_
  ·unfold ResOK
   split at h
   ·rename_i hp
    injection h with h
    subst h
    rw [hp,g2,g3]
   ·rename_i p pre up v hp
    simp only at h
    split at h
    ·rename_i hb
     injection h with h
     subst h
     rw [hp]
     exact⟨hb,rfl⟩
    ·cases h
  ·intro q _ hq
   rw [hrep] at hq
   cases hq
  ·intro p _
   exact hrep p.1
  ·rw [frOf_skip s.D (fun q _=>hrep q.i),hpOf_skip s.D (fun q _=>hrep q.i)]
   obtain⟨q1,q2⟩:=hsr.hr.grow (w':={ w with drawn:=w.drawn+1 }) ⟨rfl,rfl,rfl,Nat.le_refl _,fun _ _=>rfl⟩
   exact⟨q1,q2.fr hsr.hr hsr.fr,hsr.sz,hsr.stp.trans q2,hsr.win,DfOK.mono (q2.keeps hsr.hr) q2.inc q2.ple df hsr.df⟩
  ·intro i _ _ b hb1 hb2
   exact(hnx b (by omega)).1
  ·intro b hb
   exact(hnx b (by omega)).1
  ·unfold left
   have:=List.length_filter_le (fun i => !lst (Array.replicate ops.size false) i) (List.range ops.size)
   simpa using this
end
end Go.Proofs.YtdhcgankmhpgeaaGreat.M
