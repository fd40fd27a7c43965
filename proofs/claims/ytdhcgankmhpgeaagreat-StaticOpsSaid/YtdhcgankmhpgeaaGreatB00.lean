import Derived.Below
import Derived.Deep.Draws
import Derived.Maps.AppendAt
import Derived.Laws.Rows
import Derived.Laws.Cells
import Derived.Tactics
import Derived.Calls
import Derived.Orders
import Derived.Recover
import Derived.Laws.Slices
import Derived.Laws.Strings
import Derived.Laws.CopyRow
import Derived.Laws.MakeOwn
import Derived.Laws.OwnMore
import Derived.Great.BuildSlice
set_option linter.all false
namespace Go.Proofs.YtdhcgankmhpgeaaGreat.M
open Go
inductive AV where
 | int (k:IntKind) (n:Int)
 | bool (b:Bool)
 | str (s:List UInt8)
 | sl (sz:Nat) (es:List (List AV))
 | nils
 | nilp|nilfn|nilif|nilm
 | ep (cs:List AV)
 | fn (f:Nat) (caps:List AV)
 | ifc (t:Nat) (v:AV)
 | agg (cs:List AV)
 | tup (vs:List AV)
 | ptr (b off:Nat)
 | rp (b i off:Nat)
 | row (b off n:Nat)
 | mp (b:Nat)
 | undef
 deriving Inhabited
inductive Pl where
 | blk (g sz cap:Nat)
 | empty
abbrev Plan:=Nat→Option Pl
def Plan.le(p q:Plan):Prop:=∀ b x,p b=some x→q b=some x
theorem Plan.le_refl(p:Plan):p.le p:=fun _ _ h=>h
theorem Plan.le_trans{p q r:Plan}(h:p.le q)(k:q.le r):p.le r:=fun b x hx=>k b x (h b x hx)
def nopl:Plan:=fun _=>none
theorem nopl_le(p:Plan):nopl.le p:=fun _ _ h=>by cases h
def cellAt(w:World)(b off:Nat):Option Value:=w.cell? ⟨b,off,none⟩
mutual
def Rep(w:World)(I:Nat→Prop)(pl:Plan):AV→Value→Prop
 | .int k n,v=>v = .int k n
 | .bool b,v=>v = .bool b
 | .str s,v=>∃ t,v = .string t∧t.data.toList=s
 | .sl sz es,v=>∃ a n c,v = .slice a n c∧es.length=n∧n≤c∧c≤maxLen∧(es=[]∨∃ g off,a=some ⟨g,off,none⟩∧I g∧RepE w I nopl sz es g off)
 | .nils,v=>v = .slice none 0 0
 | .nilp,v=>v = .pointer none
 | .nilfn,v=>v = .nilFunc
 | .nilif,v=>v = .nilIface
 | .nilm,v=>v = .map none
 | .ep cs,v=>∃ g off,v = .pointer (some ⟨g,off,none⟩)∧I g∧RepM w I nopl cs g off
 | .fn f caps,v=>∃ vs:List Value,v = .func (.func f) #[] vs.toArray∧RepL w I pl caps vs
 | .ifc t x,v=>∃ u,v = .iface t u∧Rep w I pl x u
 | .agg cs,v=>∃ vs:List Value,v = .agg vs.toArray∧(∀ u∈vs,u.oneCell'=true)∧RepL w I pl cs vs
 | .tup cs,v=>∃ vs:List Value,v = .tuple vs.toArray∧RepL w I pl cs vs
 | .ptr b off,v=>∃ g sz cap,pl b=some (.blk g sz cap)∧v = .pointer (some ⟨g,off,none⟩)
 | .rp b i off,v=>∃ g sz cap,pl b=some (.blk g sz cap)∧v = .pointer (some ⟨g,i*sz+off,none⟩)
 | .row b off n,v=>(pl b=some .empty∧off=0∧n=0∧v = .slice none 0 0)∨∃ g sz cap,pl b=some (.blk g sz cap)∧off+n≤cap∧v = .slice (some ⟨g,off*sz,none⟩) n (cap-off)
 | .mp b,v=>∃ g sz cap,pl b=some (.blk g sz cap)∧v = .map (some g)
 | .undef,_=>True
def RepL(w:World)(I:Nat→Prop)(pl:Plan):List AV→List Value→Prop
 | [],vs=>vs=[]
 | x::xs,vs=>∃ v vs',vs=v::vs'∧Rep w I pl x v∧RepL w I pl xs vs'
def RepM(w:World)(I:Nat→Prop)(pl:Plan):List AV→Nat→Nat→Prop
 | [],_,_=>True
 | x::xs,g,off=>(∃ v,cellAt w g off=some v∧v.oneCell'=true∧Rep w I pl x v)∧RepM w I pl xs g (off+1)
def RepE(w:World)(I:Nat→Prop)(pl:Plan)(sz:Nat):List (List AV)→Nat→Nat→Prop
 | [],_,_=>True
 | e::es,g,off=>e.length=sz∧RepM w I pl e g off∧RepE w I pl sz es g (off+sz)
end
structure Keeps(I:Nat→Prop)(w w':World):Prop where
 cell:∀ g,I g→w'.heap[g]?=w.heap[g]?
theorem Keeps.refl(I:Nat→Prop)(w:World):Keeps I w w:=⟨fun _ _=>rfl⟩
theorem Keeps.at{I:Nat→Prop}{w w':World}(h:Keeps I w w'){g off:Nat}(hg:I g):cellAt w' g off=cellAt w g off:=by
 unfold cellAt World.cell?
 simp only [h.cell g hg]
section
variable {w w' : World} {I I' : Nat → Prop}
mutual
theorem Rep.mono{pl pl':Plan}(hk:Keeps I w w')(hi:∀ g,I g→I' g)(hp:pl.le pl'):∀(x:AV){v:Value},Rep w I pl x v→Rep w' I' pl' x v
 | .int _ _,v,h=>by simpa only [Rep] using h
 | .bool _,v,h=>by simpa only [Rep] using h
 | .str _,v,h=>by simpa only [Rep] using h
 | .nils,v,h=>by simpa only [Rep] using h
 | .nilp,v,h=>by simpa only [Rep] using h
 | .nilfn,v,h=>by simpa only [Rep] using h
 | .nilif,v,h=>by simpa only [Rep] using h
 | .nilm,v,h=>by simpa only [Rep] using h
 | .undef,v,h=>by simp only [Rep]
 | .sl sz es,v,h=>by
   simp only [Rep] at h ⊢
   obtain⟨a,n,c,rfl,h1,h2,h3,h4⟩:=h
   refine⟨a,n,c,rfl,h1,h2,h3,?_⟩
   rcases h4 with h4|⟨g,off,rfl,hg,he⟩
   ·exact .inl h4
   ·exact .inr ⟨g,off,rfl,hi g hg,RepE.mono hk hi (Plan.le_refl _) es hg he⟩
 | .ep cs,v,h=>by
   simp only [Rep] at h ⊢
   obtain⟨g,off,rfl,hg,he⟩:=h
   exact⟨g,off,rfl,hi g hg,RepM.mono hk hi (Plan.le_refl _) cs hg he⟩
 | .fn f caps,v,h=>by
   simp only [Rep] at h ⊢
   obtain⟨vs,rfl,he⟩:=h
   exact⟨vs,rfl,RepL.mono hk hi hp caps he⟩
 | .ifc t x,v,h=>by
   simp only [Rep] at h ⊢
   obtain⟨u,rfl,he⟩:=h
   exact⟨u,rfl,Rep.mono hk hi hp x he⟩
 | .agg cs,v,h=>by
   simp only [Rep] at h ⊢
   obtain⟨vs,rfl,h1,he⟩:=h
   exact⟨vs,rfl,h1,RepL.mono hk hi hp cs he⟩
 | .tup cs,v,h=>by
   simp only [Rep] at h ⊢
   obtain⟨vs,rfl,he⟩:=h
   exact⟨vs,rfl,RepL.mono hk hi hp cs he⟩
 | .ptr b off,v,h=>by
   simp only [Rep] at h ⊢
   obtain⟨g,sz,cap,h1,rfl⟩:=h
   exact⟨g,sz,cap,hp _ _ h1,rfl⟩
 | .rp b i off,v,h=>by
   simp only [Rep] at h ⊢
   obtain⟨g,sz,cap,h1,rfl⟩:=h
   exact⟨g,sz,cap,hp _ _ h1,rfl⟩
 | .row b off n,v,h=>by
   simp only [Rep] at h ⊢
   rcases h with ⟨h1,h2⟩|⟨g,sz,cap,h1,h2⟩
   ·exact .inl ⟨hp _ _ h1,h2⟩
   ·exact .inr ⟨g,sz,cap,hp _ _ h1,h2⟩
 | .mp b,v,h=>by
   simp only [Rep] at h ⊢
   obtain⟨g,sz,cap,h1,rfl⟩:=h
   exact⟨g,sz,cap,hp _ _ h1,rfl⟩
theorem RepL.mono{pl pl':Plan}(hk:Keeps I w w')(hi:∀ g,I g→I' g)(hp:pl.le pl'):∀(xs:List AV){vs:List Value},RepL w I pl xs vs→RepL w' I' pl' xs vs
 | [],vs,h=>by simpa only [RepL] using h
 | x::xs,vs,h=>by
   simp only [RepL] at h ⊢
   obtain⟨v,vs',rfl,h1,h2⟩:=h
   exact⟨v,vs',rfl,Rep.mono hk hi hp x h1,RepL.mono hk hi hp xs h2⟩
theorem RepM.mono{pl pl':Plan}(hk:Keeps I w w')(hi:∀ g,I g→I' g)(hp:pl.le pl'):∀(xs:List AV){g off:Nat},I g→RepM w I pl xs g off→RepM w' I' pl' xs g off
 | [],_,_,_,h=>by simp only [RepM]
 | x::xs,g,off,hg,h=>by
   simp only [RepM] at h ⊢
   obtain⟨⟨v,h1,h2,h3⟩,h4⟩:=h
   exact⟨⟨v,(hk.at hg).trans h1,h2,Rep.mono hk hi hp x h3⟩,RepM.mono hk hi hp xs hg h4⟩
theorem RepE.mono{pl pl':Plan}(hk:Keeps I w w')(hi:∀ g,I g→I' g)(hp:pl.le pl'):∀(es:List (List AV)){sz g off:Nat},I g→RepE w I pl sz es g off→RepE w' I' pl' sz es g off
 | [],_,_,_,_,h=>by simp only [RepE]
 | e::es,sz,g,off,hg,h=>by
   simp only [RepE] at h ⊢
   exact⟨h.1,RepM.mono hk hi hp e hg h.2.1,RepE.mono hk hi hp es hg h.2.2⟩
end
end
def look{α:Type}(k:Nat):List (Nat×α)→Option α
 | []=>none
 | (j,x)::r=>if Nat.beq k j then some x else look k r
inductive Obj' where
 | var (T:Nat) (cs:List AV)
 | arr (T sz:Nat) (es:List (List AV))
 | mapo (es:List (List UInt8×AV))
 | dead
abbrev Hp:=List (Nat×Obj')
abbrev Fr:=List (Nat×AV)
structure TI where
 desc:TypeDesc
 size:Nat
 bytes:Nat
 zero:List AV
def TI.agg(i:TI):Bool:=match i.desc with | .struct _ | .array _ _=>true|_=>false
inductive AE where
 | ret (v:AV)
 | pan (v:AV)
structure Gl where
 ty:Nat→Option TI
 fn:Nat→Option Func
 pu:Nat→Option (List AV→Option AE)
def ofS:Value→Option AV
 | .int k n=>some (.int k n)
 | .bool b=>some (.bool b)
 | .string s=>some (.str s.data.toList)
 | .pointer none=>some .nilp
 | .slice none 0 0=>some .nils
 | .nilFunc=>some .nilfn
 | .nilIface=>some .nilif
 | .map none=>some .nilm
 | _=>none
def ofV:Value→Option AV
 | .agg cs=>(cs.toList.mapM ofS).map .agg
 | v=>ofS v
def opv(fr:Fr):Operand→Option AV
 | .tmp t=>look t fr
 | .const v=>ofV v
 | .func f=>some (.fn f [])
 | .global _=>none
def AV.cell:AV→Bool
 | .agg _ | .tup _ | .undef=>false
 | _=>true
def cellsOf:AV→Option (List AV)
 | .agg cs=>some cs
 | .tup _ | .undef=>none
 | x=>some [x]
def ofCells(agg:Bool)(cs:List AV):Option AV :=
 if agg then some (.agg cs) else match cs with
  | [x]=>some x
  | _=>none
def takeN(cs:List AV)(off n:Nat):Option (List AV) :=
 if off+n≤cs.length then some ((cs.drop off).take n) else none
def putAt(cs:List AV)(off:Nat)(new:List AV):List AV:=cs.take off++new++cs.drop (off+new.length)
def elemsOf(hp:Hp)(want:Nat):AV→Option (List (List AV))
 | .nils=>some []
 | .sl sz es=>if Nat.beq sz want then some es else none
 | .row b off n=>match look b hp with
   | some (.arr _ sz es)=>if off+n≤es.length∧sz=want then some ((es.drop off).take n) else none
   | _=>none
 | _=>none
def loadD(G:Gl)(hp:Hp)(T:Nat)(a:AV):Option AV :=
 match G.ty T with
 | none=>none
 | some i=>match a with
   | .ptr b off=>match look b hp with
     | some (.var _ cs)=>(takeN cs off i.size).bind (ofCells i.agg)
     | _=>none
   | .rp b k off=>match look b hp with
     | some (.arr _ _ es)=>match es[k]? with
       | some e=>(takeN e off i.size).bind (ofCells i.agg)
       | none=>none
     | _=>none
   | .ep cs=>(takeN cs 0 i.size).bind (ofCells i.agg)
   | _=>none
def storeD(G:Gl)(hp:Hp)(T:Nat)(a x:AV):Option Hp :=
 match G.ty T,cellsOf x with
 | some i,some new =>
   if new.length=i.size then match a with
    | .ptr b off=>match look b hp with
      | some (.var T' cs)=>if off+new.length≤cs.length then some [(b,.var T' (putAt cs off new))] else none
      | _=>none
    | .rp b k off=>match look b hp with
      | some (.arr T' sz es)=>match es[k]? with
        | some e=>if off+new.length≤e.length then some [(b,.arr T' sz (es.set k (putAt e off new)))] else none
        | none=>none
      | _=>none
    | _=>none
   else none
 | _,_=>none
def isSliceT(G:Gl)(T:Nat):Bool:=match G.ty T with|some { desc := .slice _,.. }=>true|_=>false
def isStrT(G:Gl)(T:Nat):Bool:=match G.ty T with|some { desc := .string,.. }=>true|_=>false
def fieldOf(G:Gl)(S f:Nat):Option (Nat×TI) :=
 match G.ty S with
 | some { desc := .struct fs,.. }=>match fs[f]? with
   | some fd=>(G.ty fd.type).map fun i=>(fd.offset,i)
   | none=>none
 | _=>none
def fieldAddrD(G:Gl)(S:Nat)(a:AV)(f:Nat):Option AV :=
 match fieldOf G S f with
 | some (o,i)=>if i.size=0 then none else match a with
   | .ptr b off=>some (.ptr b (off+o))
   | .rp b k off=>some (.rp b k (off+o))
   | .ep cs=>if o≤cs.length then some (.ep (cs.drop o)) else none
   | _=>none
 | none=>none
def fieldD(G:Gl)(S:Nat)(x:AV)(f:Nat):Option AV :=
 match fieldOf G S f,x with
 | some (o,i),.agg cs=>(takeN cs o i.size).bind (ofCells i.agg)
 | _,_=>none
def sliceElem(G:Gl)(T:Nat):Option TI :=
 match G.ty T with
 | some { desc := .slice e,.. }=>G.ty e
 | _=>none
def arrElem(G:Gl)(T:Nat):Option (Nat×TI) :=
 match G.ty T with
 | some { desc := .array n e,.. }=>(G.ty e).map fun i=>(n,i)
 | _=>none
def indexAddrD(G:Gl)(hp:Hp)(T:Nat)(x i:AV):Option AV :=
 match i with
 | .int _ n =>
   if 0≤n then
    match sliceElem G T with
    | some ie=>match x with
      | .sl sz es=>if Nat.beq sz ie.size then (es[n.toNat]?).map .ep else none
      | .row b off len=>match look b hp with
        | some (.arr _ sz es)=>if n.toNat<len∧off+len≤es.length∧sz=ie.size then some (.rp b (off+n.toNat) 0) else none
        | _=>none
      | _=>none
    | none=>match x,arrElem G T with
      | .ptr b off,some (len,ie)=>if n.toNat<len then some (.ptr b (off+n.toNat*ie.size)) else none
      | _,_=>none
   else none
 | _=>none
def indexD(G:Gl)(T:Nat)(x i:AV):Option AV :=
 match i with
 | .int _ n =>
   if 0≤n then
    match x with
    | .str s=>if isStrT G T then (s[n.toNat]?).map fun c => .int .u8 c.toNat else none
    | .agg cs=>match arrElem G T with
      | some (len,ie)=>if n.toNat<len then (takeN cs (n.toNat*ie.size) ie.size).bind (ofCells ie.agg) else none
      | none=>none
    | _=>none
   else none
 | _=>none
def bound(d:Nat):Option AV→Option Nat
 | none=>some d
 | some (.int _ n)=>if 0≤n then some n.toNat else none
 | some _=>none
def sliceD(G:Gl)(hp:Hp)(T:Nat)(x:AV)(lo hi:Option AV):Option AV :=
 match x with
 | .str s=>if isStrT G T then match bound 0 lo,bound s.length hi with
   | some l,some h=>if l≤h∧h≤s.length then some (.str ((s.drop l).take (h-l))) else none
   | _,_=>none else none
 | .sl sz es=>match sliceElem G T with
   | some ie=>if Nat.beq sz ie.size then match bound 0 lo,bound es.length hi with
     | some l,some h=>if l≤h∧h≤es.length then some (.sl sz ((es.drop l).take (h-l))) else none
     | _,_=>none else none
   | none=>none
 | .row b off n=>match sliceElem G T with
   | some ie=>match look b hp with
     | some (.arr _ sz _)=>if Nat.beq sz ie.size then match bound 0 lo,bound n hi with
       | some l,some h=>if l≤h∧h≤n then (if l=h then some (.sl ie.size []) else some (.row b (off+l) (h-l))) else none
       | _,_=>none else none
     | _=>none
   | none=>none
 | _=>none
def intOp(op:BinOp)(k:IntKind)(a b:Int):Option AV :=
 match op with
 | .add=>some (.int k (k.wrap (a+b)))
 | .sub=>some (.int k (k.wrap (a-b)))
 | .mul=>some (.int k (k.wrap (a*b)))
 | .quo=>if b=0 then none else some (.int k (k.wrap (a.tdiv b)))
 | .rem=>if b=0 then none else some (.int k (a.tmod b))
 | .and=>some (.int k (k.wrap (BitVec.ofInt k.bits a &&& BitVec.ofInt k.bits b).toNat))
 | .or=>some (.int k (k.wrap (BitVec.ofInt k.bits a ||| BitVec.ofInt k.bits b).toNat))
 | .xor=>some (.int k (k.wrap (BitVec.ofInt k.bits a ^^^ BitVec.ofInt k.bits b).toNat))
 | .eql=>some (.bool (a==b))
 | .neq=>some (.bool (a != b))
 | .lss=>some (.bool (decide (a<b)))
 | .leq=>some (.bool (decide (a≤b)))
 | .gtr=>some (.bool (decide (a>b)))
 | .geq=>some (.bool (decide (a≥b)))
 | _=>none
def shiftOp(op:BinOp)(k:IntKind)(a b:Int):Option AV :=
 if b<0 then none else match op with
  | .shl=>some (.int k (k.wrap (a*2^(min b.toNat k.bits))))
  | .shr=>some (.int k (a.fdiv (2^(min b.toNat k.bits))))
  | _=>none
def isShift:BinOp→Bool
 | .shl | .shr=>true
 | _=>false
def isBoolT(G:Gl)(T:Nat):Bool:=match G.ty T with|some { desc := .bool,.. }=>true|_=>false
def isFuncT(G:Gl)(T:Nat):Bool:=match G.ty T with|some { desc := .func _ _ _,.. }=>true|_=>false
def binD(G:Gl)(op:BinOp)(T:Nat)(x y:AV):Option AV :=
 match x,y with
 | .int k a,.int k' b=>if isShift op then shiftOp op k a b else if k=k' then intOp op k a b else none
 | .str a,.str b=>match op with
   | .eql=>some (.bool (a==b))
   | .neq=>some (.bool !(a==b))
   | .add=>if a.length+b.length≤1152921504606846976 then some (.str (a++b)) else none
   | _=>none
 | .bool a,.bool b=>if isBoolT G T then match op with
   | .eql=>some (.bool (a==b))
   | .neq=>some (.bool !(a==b))
   | _=>none else none
 | .fn _ _,.nilfn=>if isFuncT G T then match op with
   | .eql=>some (.bool false)
   | .neq=>some (.bool true)
   | _=>none else none
 | .nils,.nils=>if isSliceT G T then match op with
   | .eql=>some (.bool true)
   | .neq=>some (.bool false)
   | _=>none else none
 | .row _ _ (_+1),.nils=>if isSliceT G T then match op with
   | .eql=>some (.bool false)
   | .neq=>some (.bool true)
   | _=>none else none
 | .sl _ (_::_),.nils=>if isSliceT G T then match op with
   | .eql=>some (.bool false)
   | .neq=>some (.bool true)
   | _=>none else none
 | .nilfn,.nilfn=>if isFuncT G T then match op with
   | .eql=>some (.bool true)
   | .neq=>some (.bool false)
   | _=>none else none
 | _,_=>none
def unD(op:UnOp)(x:AV):Option AV :=
 match op,x with
 | .not,.bool b=>some (.bool !b)
 | .neg,.int k n=>some (.int k (k.wrap (0-n)))
 | _,_=>none
def convD(G:Gl)(S T:Nat)(x:AV):Option AV :=
 match x,G.ty S,G.ty T with
 | .int _ n,some _,some { desc := .int k,.. }=>some (.int k (k.wrap n))
 | .str s,some _,some { desc := .string,.. }=>some (.str s)
 | _,_,_=>none
def lenD(G:Gl)(hp:Hp)(T:Nat)(x:AV):Option AV :=
 match x with
 | .str s=>if isStrT G T then some (.int .i64 s.length) else none
 | .sl _ es=>if isSliceT G T then some (.int .i64 es.length) else none
 | .row _ _ n=>if isSliceT G T then some (.int .i64 n) else none
 | .nils=>if isSliceT G T then some (.int .i64 0) else none
 | _=>none
def most:Nat:=1000000000
def appendD(G:Gl)(base:Nat)(hp:Hp)(T:Nat)(s x:AV):Option (AV×Hp) :=
 match G.ty T with
 | some { desc := .slice e,.. }=>match G.ty e,(G.ty e).bind (fun ie=>elemsOf hp ie.size x) with
   | some ie,some new =>
     if decide (0<ie.size)&&decide (0<ie.bytes)&&decide (ie.bytes≤1000) then
      match s with
      | .nils=>if new.length≤most then some (.row base 0 new.length,[(base,.arr e ie.size new)]) else none
      | .row b 0 n=>match look b hp with
        | some (.arr e' sz es)=>if e'=e∧sz=ie.size∧n=es.length∧n+new.length≤most then some (.row base 0 (n+new.length),[(base,.arr e ie.size (es++new)),(b,.dead)]) else none
        | _=>none
      | _=>none
     else none
   | _,_=>none
 | _=>none
def copyD(G:Gl)(hp:Hp)(T:Nat)(d x:AV):Option (AV×Hp) :=
 match sliceElem G T,d,(sliceElem G T).bind (fun ie=>elemsOf hp ie.size x) with
 | some ie,.row b off n,some new=>match look b hp with
   | some (.arr e sz es) =>
     if off+n≤es.length∧sz=ie.size then
      some (.int .i64 (min new.length n:Nat),[(b,.arr e sz (es.take off++new.take n++es.drop (off+min new.length n)))])
     else none
   | _=>none
 | _,_,_=>none
def fillD(place:Nat→Option (Nat×Nat)):List AV→List (Nat×List AV)→Option (List AV)
 | cells,[]=>some cells
 | cells,(i,new)::r=>match place i with
   | some (off,size)=>if new.length=size∧off+size≤cells.length then fillD place (putAt cells off new) r else none
   | none=>none
def partsD(fr:Fr):List (Nat×Operand)→Option (List (Nat×List AV))
 | []=>some []
 | (i,x)::r=>match (opv fr x).bind cellsOf,partsD fr r with
   | some cs,some l=>some ((i,cs)::l)
   | _,_=>none
def places(G:Gl):List Field→Option (List (Nat×Nat))
 | []=>some []
 | f::r=>match G.ty f.type,places G r with
   | some i,some l=>some ((f.offset,i.size)::l)
   | _,_=>none
def buildD(G:Gl)(T:Nat)(ps:List (Nat×List AV)):Option AV :=
 match G.ty T with
 | some { desc := .struct fs,zero:=z,.. }=>match places G fs.toList with
   | some pl=>(fillD (fun i=>pl[i]?) z ps).map .agg
   | none=>none
 | some { desc := .array _ e,zero:=z,.. }=>match G.ty e with
   | some ie=>(fillD (fun i=>some (i*ie.size,ie.size)) z ps).map .agg
   | none=>none
 | _=>none
def setAll(sz:Nat):List (List AV)→List (Nat×List AV)→Option (List (List AV))
 | es,[]=>some es
 | es,(i,new)::r=>if new.length=sz∧i<es.length then setAll sz (es.set i new) r else none
def buildSliceD(G:Gl)(base:Nat)(T len:Nat)(ps:List (Nat×List AV)):Option (AV×Hp) :=
 match G.ty T with
 | some { desc := .slice e,.. }=>match G.ty e with
   | some ie=>if decide (0<ie.size)&&decide (ie.zero.length=ie.size)&&decide (len*ie.size≤100000) then (setAll ie.size (List.replicate len ie.zero) ps).map fun es=>(.row base 0 len,[(base,.arr e ie.size es)]) else none
   | none=>none
 | _=>none
def makeSliceD(G:Gl)(base:Nat)(T:Nat)(l c:AV):Option (AV×Hp) :=
 match G.ty T,l,c with
 | some { desc := .slice e,.. },.int _ n,.int _ m=>match G.ty e with
   | some ie=>if n=m∧0≤n∧n≤1000000∧0<ie.size∧ie.zero.length=ie.size∧ie.bytes≤1000 then some (.row base 0 n.toNat,[(base,.arr e ie.size (List.replicate n.toNat ie.zero))]) else none
   | none=>none
 | _,_,_=>none
def mapGet(s:List UInt8):List (List UInt8×AV)→Option AV
 | []=>none
 | (k,v)::r=>if s==k then some v else mapGet s r
def maxD(big:Bool):AV→List AV→Option AV
 | x,[]=>some x
 | .int k a,.int _ b::r=>maxD big (.int k (if big then (if b>a then b else a) else (if b<a then b else a))) r
 | _,_=>none
def argsD(fr:Fr):List Operand→Option (List AV)
 | []=>some []
 | x::r=>match opv fr x,argsD fr r with
   | some v,some l=>some (v::l)
   | _,_=>none
def isMapS(G:Gl)(T:Nat):Option TI :=
 match G.ty T with
 | some { desc := .map k e,.. }=>match G.ty k with
   | some { desc := .string,.. }=>G.ty e
   | _=>none
 | _=>none
def opD(G:Gl)(base:Nat)(o:Oper)(fr:Fr)(hp:Hp):Option (AV×Hp) :=
 match o.op with
 | .move x | .assign x=>(opv fr x).map (·,[])
 | .pick c a b=>match opv fr c with
   | some (.bool t)=>(opv fr (if t then a else b)).map (·,[])
   | _=>none
 | .alloc T=>(G.ty T).map fun i=>(.ptr base 0,[(base,.var T i.zero)])
 | .box T x=>((opv fr x).bind cellsOf).map fun cs=>(.ptr base 0,[(base,.var T cs)])
 | .build T ps=>((partsD fr ps.toList).bind (buildD G T)).map (·,[])
 | .buildSlice T n ps=>(partsD fr ps.toList).bind (buildSliceD G base T n)
 | .load T a=>((opv fr a).bind (loadD G hp T)).map (·,[])
 | .store T a x=>match opv fr a,opv fr x with
   | some a,some x=>(storeD G hp T a x).map (.undef,·)
   | _,_=>none
 | .nilCheck x=>match opv fr x with
   | some (.ptr b f)=>some (.ptr b f,[])
   | some (.rp b i f)=>some (.rp b i f,[])
   | some (.ep cs)=>some (.ep cs,[])
   | some (.fn f cs)=>some (.fn f cs,[])
   | _=>none
 | .binOp op T x y _=>match opv fr x,opv fr y with
   | some a,some b=>(binD G op T a b).map (·,[])
   | _,_=>none
 | .unOp op _ x=>((opv fr x).bind (unD op)).map (·,[])
 | .convert S T x=>((opv fr x).bind (convD G S T)).map (·,[])
 | .makeInterface T x=>match G.ty T,opv fr x with
   | some { desc := .int _,.. },some v=>some (.ifc T v,[])
   | some { desc := .string,.. },some v=>some (.ifc T v,[])
   | _,_=>none
 | .makeFunc (.func f) first cap=>if first.isEmpty then (argsD fr cap.toList).map fun l=>(.fn f l,[]) else none
 | .makeSlice T l c=>match opv fr l,opv fr c with
   | some l,some c=>makeSliceD G base T l c
   | _,_=>none
 | .slice T x lo hi none=>match opv fr x,lo.map (opv fr),hi.map (opv fr) with
   | some x,none,none=>(sliceD G hp T x none none).map (·,[])
   | some x,some (some l),none=>(sliceD G hp T x (some l) none).map (·,[])
   | some x,none,some (some h)=>(sliceD G hp T x none (some h)).map (·,[])
   | some x,some (some l),some (some h)=>(sliceD G hp T x (some l) (some h)).map (·,[])
   | _,_,_=>none
 | .fieldAddr S x f=>((opv fr x).bind (fieldAddrD G S · f)).map (·,[])
 | .field S x f=>((opv fr x).bind (fieldD G S · f)).map (·,[])
 | .indexAddr T x i=>match opv fr x,opv fr i with
   | some x,some i=>(indexAddrD G hp T x i).map (·,[])
   | _,_=>none
 | .index T x i=>match opv fr x,opv fr i with
   | some x,some i=>(indexD G T x i).map (·,[])
   | _,_=>none
 | .extract t i=>match opv fr t with
   | some (.tup vs)=>(vs[i]?).map (·,[])
   | _=>none
 | .makeMap T none=>if (isMapS G T).isSome then some (.mp base,[(base,.mapo [])]) else none
 | .lookup T m k ok=>match opv fr m,opv fr k,isMapS G T with
   | some (.mp b),some (.str s),some ie=>match look b hp with
     | some (.mapo es)=>match mapGet s es with
       | some v=>some (if ok then .tup [v,.bool true] else v,[])
       | none=>(ofCells ie.agg ie.zero).map fun z=>(if ok then .tup [z,.bool false] else z,[])
     | _=>none
   | _,_,_=>none
 | .mapUpdate T m k x=>match opv fr m,opv fr k,opv fr x,isMapS G T with
   | some (.mp b),some (.str s),some x,some _=>match look b hp with
     | some (.mapo es)=>match mapGet s es with
       | some _=>none
       | none=>some (.undef,[(b,.mapo (es++[(s,x)]))])
     | _=>none
   | _,_,_,_=>none
 | .call { callee := .builtin .len,args,argTypes }=>match args.toList,argTypes.toList with
   | [x],[T]=>((opv fr x).bind (lenD G hp T)).map (·,[])
   | _,_=>none
 | .call { callee := .builtin .append,args,argTypes }=>match args.toList,argTypes.toList with
   | [s,x],[T,U]=>if Nat.beq T U then match opv fr s,opv fr x with
     | some s,some x=>appendD G base hp T s x
     | _,_=>none else none
   | _,_=>none
 | .call { callee := .builtin .copy,args,argTypes }=>match args.toList,argTypes.toList with
   | [d,x],[T,_]=>match opv fr d,opv fr x with
     | some d,some x=>copyD G hp T d x
     | _,_=>none
   | _,_=>none
 | .call { callee := .builtin .max,args,.. }=>match argsD fr args.toList with
   | some (x::r)=>(maxD true x r).map (·,[])
   | _=>none
 | .call { callee := .builtin .min,args,.. }=>match argsD fr args.toList with
   | some (x::r)=>(maxD false x r).map (·,[])
   | _=>none
 | _=>none
end Go.Proofs.YtdhcgankmhpgeaaGreat.M
namespace Go.Proofs.YtdhcgankmhpgeaaGreat.M
open Go
def Obj'.live:Obj'→Bool
 | .dead=>false
 | _=>true
def Own(hp:Hp)(pl:Plan)(g:Nat):Prop:=∃ b o sz cap,look b hp=some o∧o.live=true∧pl b=some (.blk g sz cap)
def RepMap(w:World)(I:Nat→Prop)(pl:Plan):List (List UInt8×AV)→List MapEntry→Prop
 | [],ms=>ms=[]
 | (s,x)::r,ms=>∃ e ms',ms=e::ms'∧(∃ t,e.key = .string t∧t.data.toList=s)∧Rep w I pl x e.val∧RepMap w I pl r ms'
def ObjRep(w:World)(I:Nat→Prop)(pl:Plan)(b:Nat):Obj'→Prop
 | .var T cs=>∃ g sz cap,∃ vs:List Value,pl b=some (.blk g sz cap)∧w.heap[g]?=some (.cells vs.toArray T (0,0))∧(∀ u∈vs,u.oneCell'=true)∧RepL w I pl cs vs
 | .arr T sz es=>(pl b=some .empty∧es=[])∨∃ g cap,∃ vs:List Value,pl b=some (.blk g sz cap)∧w.heap[g]?=some (.cells vs.toArray T (0,0))∧es.length≤cap∧cap≤maxLen∧vs.length=cap*sz ∧
   (∀ e∈es,e.length=sz)∧(∀ u∈vs.take (es.length*sz),u.oneCell'=true)∧RepL w I pl es.flatten (vs.take (es.length*sz))
 | .mapo es=>∃ g sz cap ms clock,pl b=some (.blk g sz cap)∧w.heap[g]?=some (.map ms clock)∧RepMap w I pl es ms.toList
 | .dead=>True
structure GV(w:World)(I:Nat→Prop):Prop where
 at0:I 0
 int:∃ m,cellAt w 0 0=some (.int .i64 m)
theorem GV.mono{w w':World}{I I':Nat→Prop}(hk:Keeps I w w')(hi:∀ g,I g→I' g)(h:GV w I):GV w' I' :=
 ⟨hi 0 h.at0,h.int.elim fun m hm=>⟨m,(hk.at h.at0).trans hm⟩⟩
structure HR(w:World)(I:Nat→Prop)(pl:Plan)(hp:Hp):Prop where
 obj:∀ b o,look b hp=some o→ObjRep w I pl b o
 inj:∀ b b' o o' g sz cap sz' cap',look b hp=some o→look b' hp=some o'→o.live=true→o'.live=true→pl b=some (.blk g sz cap)→pl b'=some (.blk g sz' cap')→b=b'
 imm:∀ g,I g→g<w.heap.size
 dis:∀ g,Own hp pl g→¬ I g
 low:∀ g,Own hp pl g→g<w.heap.size
 gv:GV w I
structure Stp(w:World)(I:Nat→Prop)(pl:Plan)(hp:Hp)(w':World)(I':Nat→Prop)(pl':Plan)(hp':Hp):Prop where
 size:w.heap.size≤w'.heap.size
 keep:∀ k,k<w.heap.size→¬ Own hp pl k→w'.heap[k]?=w.heap[k]?
 inc:∀ g,I g→I' g
 ple:pl.le pl'
 own:∀ g,Own hp' pl' g→Own hp pl g∨w.heap.size≤g
 imm:∀ g,I' g→I g∨Own hp pl g∨w.heap.size≤g
 os:w'.os=w.os
 tape:w'.tape=w.tape
 output:w'.output=w.output
theorem Stp.refl(w:World)(I:Nat→Prop)(pl:Plan)(hp:Hp):Stp w I pl hp w I pl hp :=
 ⟨Nat.le_refl _,fun _ _ _=>rfl,fun _ h=>h,Plan.le_refl _,fun _ h => .inl h,fun _ h => .inl h,rfl,rfl,rfl⟩
theorem Stp.trans{w w1 w2:World}{I I1 I2:Nat→Prop}{pl pl1 pl2:Plan}{hp hp1 hp2:Hp}(h:Stp w I pl hp w1 I1 pl1 hp1)(k:Stp w1 I1 pl1 hp1 w2 I2 pl2 hp2):Stp w I pl hp w2 I2 pl2 hp2 where
 size:=Nat.le_trans h.size k.size
 keep:=fun i hi hn=>(k.keep i (Nat.lt_of_lt_of_le hi h.size) (fun ho=>(h.own i ho).elim hn (by omega))).trans (h.keep i hi hn)
 inc:=fun g hg=>k.inc g (h.inc g hg)
 ple:=Plan.le_trans h.ple k.ple
 own:=fun g hg=>(k.own g hg).elim (h.own g) (fun hs => .inr (Nat.le_trans h.size hs))
 imm:=fun g hg=>by
  rcases k.imm g hg with hg|hg|hg
  ·exact h.imm g hg
  ·exact .inr (h.own g hg)
  ·exact .inr (.inr (Nat.le_trans h.size hg))
 os:=k.os.trans h.os
 tape:=k.tape.trans h.tape
 output:=k.output.trans h.output
theorem Stp.keeps{w w':World}{I I':Nat→Prop}{pl pl':Plan}{hp hp':Hp}(h:Stp w I pl hp w' I' pl' hp')(hr:HR w I pl hp):Keeps I w w' :=
 ⟨fun g hg=>h.keep g (hr.imm g hg) (fun ho=>hr.dis g ho hg)⟩
theorem Stp.gv{w w':World}{I I':Nat→Prop}{pl pl':Plan}{hp hp':Hp}(h:Stp w I pl hp w' I' pl' hp')(hr:HR w I pl hp):GV w' I':=GV.mono (h.keeps hr) h.inc hr.gv
theorem Stp.rep{w w':World}{I I':Nat→Prop}{pl pl':Plan}{hp hp':Hp}(h:Stp w I pl hp w' I' pl' hp')(hr:HR w I pl hp){x:AV}{v:Value}(hx:Rep w I pl x v):Rep w' I' pl' x v :=
 Rep.mono (h.keeps hr) h.inc h.ple x hx
def FR(fr:Fr)(tm:Array Value)(w:World)(I:Nat→Prop)(pl:Plan):Prop:=∀ t x,look t fr=some x→∃ v,tm[t]?=some v∧Rep w I pl x v
theorem Stp.fr{w w':World}{I I':Nat→Prop}{pl pl':Plan}{hp hp':Hp}(h:Stp w I pl hp w' I' pl' hp')(hr:HR w I pl hp){fr:Fr}{tm:Array Value}(hf:FR fr tm w I pl):FR fr tm w' I' pl' :=
 fun t x hx=>let ⟨v,h1,h2⟩:=hf t x hx;⟨v,h1,h.rep hr h2⟩
structure TyOK(P:Program)(t:Nat)(i:TI):Prop where
 und:P.underlying t=some i.desc
 info:∃ inf z,P.info? t=some inf∧inf.size=i.size∧inf.bytes=i.bytes∧inf.zero=some z∧z.cells.toList.mapM ofS=some i.zero∧z.cells.size=i.size∧(if i.agg then z = .agg z.cells else z.cells=#[z])
structure GOK(G:Gl)(P:Program):Prop where
 ty:∀ t i,G.ty t=some i→TyOK P t i
 fn:∀ f F,G.fn f=some F→P.funcs[f]?=some F∧(F.name == "runtime.NumGoroutine")=false
section
variable {G : Gl} {P : Program} (hG : GOK G P) {w : World} {I : Nat → Prop} {pl : Plan}
theorem rep_ofS{v:Value}{x:AV}(h:ofS v=some x):Rep w I pl x v∧v.oneCell'=true:=by
 unfold ofS at h
 split at h<;>first|(cases h;done)|skip
 all_goals (injection h with h;subst h;simp [Rep,Value.oneCell'])
theorem repL_ofS:∀{vs:List Value}{xs:List AV},vs.mapM ofS=some xs→RepL w I pl xs vs∧∀ u∈vs,u.oneCell'=true
 | [],xs,h=>by
   simp at h
   subst h
   simp [RepL]
 | v::vs,xs,h=>by
   rw [List.mapM_cons] at h
   cases h1:ofS v with
   | none=>simp [h1] at h
   | some x =>
     cases h2:vs.mapM ofS with
     | none=>simp [h1,h2] at h
     | some ys =>
       simp [h1,h2] at h
       subst h
       have a:=rep_ofS (w:=w) (I:=I) (pl:=pl) h1
       have b:=repL_ofS h2
       refine⟨?_,?_⟩
       ·simp only [RepL]
        exact⟨v,vs,rfl,a.1,b.1⟩
       ·intro u hu
        rcases List.mem_cons.1 hu with rfl|hu
        ·exact a.2
        ·exact b.2 u hu
theorem rep_ofV{v:Value}{x:AV}(h:ofV v=some x):Rep w I pl x v:=by
 unfold ofV at h
 split at h
 ·rename_i cs
  cases h1:cs.toList.mapM ofS with
  | none=>simp [h1] at h
  | some xs =>
    simp [h1] at h
    subst h
    have b:=repL_ofS (w:=w) (I:=I) (pl:=pl) h1
    simp only [Rep]
    exact⟨cs.toList,by simp,b.2,b.1⟩
 ·exact(rep_ofS h).1
theorem repL_length:∀{xs:List AV}{vs:List Value},RepL w I pl xs vs→vs.length=xs.length
 | [],vs,h=>by simp only [RepL] at h;subst h;rfl
 | x::xs,vs,h=>by
   simp only [RepL] at h
   obtain⟨v,vs',rfl,_,h2⟩:=h
   simp [repL_length h2]
theorem repL_get:∀{xs:List AV}{vs:List Value},RepL w I pl xs vs→∀{i:Nat}{x:AV},xs[i]?=some x→∃ v,vs[i]?=some v∧Rep w I pl x v
 | [],vs,h,i,x,hx=>by simp at hx
 | y::xs,vs,h,i,x,hx=>by
   simp only [RepL] at h
   obtain⟨v,vs',rfl,h1,h2⟩:=h
   cases i with
   | zero=>simp at hx;subst hx;exact⟨v,by simp,h1⟩
   | succ i=>simpa using repL_get h2 (by simpa using hx)
theorem repL_drop:∀{xs:List AV}{vs:List Value}(n:Nat),RepL w I pl xs vs→RepL w I pl (xs.drop n) (vs.drop n)
 | [],vs,n,h=>by simp only [RepL] at h;subst h;simp [RepL]
 | x::xs,vs,0,h=>h
 | x::xs,vs,n+1,h=>by
   simp only [RepL] at h
   obtain⟨v,vs',rfl,_,h2⟩:=h
   simpa using repL_drop n h2
theorem repL_take:∀{xs:List AV}{vs:List Value}(n:Nat),RepL w I pl xs vs→RepL w I pl (xs.take n) (vs.take n)
 | [],vs,n,h=>by simp only [RepL] at h;subst h;simp [RepL]
 | x::xs,vs,0,h=>by simp [RepL]
 | x::xs,vs,n+1,h=>by
   simp only [RepL] at h
   obtain⟨v,vs',rfl,h1,h2⟩:=h
   simp only [List.take_succ_cons,RepL]
   exact⟨v,_,rfl,h1,repL_take n h2⟩
theorem repL_append:∀{xs:List AV}{vs:List Value}{ys:List AV}{us:List Value},RepL w I pl xs vs→RepL w I pl ys us→RepL w I pl (xs++ys) (vs++us)
 | [],vs,ys,us,h,k=>by simp only [RepL] at h;subst h;simpa using k
 | x::xs,vs,ys,us,h,k=>by
   simp only [RepL] at h
   obtain⟨v,vs',rfl,h1,h2⟩:=h
   simp only [List.cons_append,RepL]
   exact⟨v,_,rfl,h1,repL_append h2 k⟩
theorem repM_list:∀{xs:List AV}{g off:Nat},RepM w I pl xs g off→∃ vs:List Value,vs.length=xs.length∧(∀ i v,vs[i]?=some v→cellAt w g (off+i)=some v)∧(∀ u∈vs,u.oneCell'=true)∧RepL w I pl xs vs
 | [],g,off,h=>⟨[],rfl,by simp,by simp,by simp [RepL]⟩
 | y::xs,g,off,h=>by
   simp only [RepM] at h
   obtain⟨⟨v,h1,h2,h3⟩,h4⟩:=h
   obtain⟨vs,k1,k2,k3,k4⟩:=repM_list h4
   refine⟨v::vs,by simp [k1],?_,?_,?_⟩
   ·intro i u hu
    cases i with
    | zero=>simp at hu;subst hu;simpa using h1
    | succ i=>simpa [show off+(i+1)=off+1+i by omega] using k2 i u (by simpa using hu)
   ·intro u hu
    rcases List.mem_cons.1 hu with rfl|hu
    ·exact h2
    ·exact k3 u hu
   ·simp only [RepL]
    exact⟨v,vs,rfl,h3,k4⟩
theorem repM_drop:∀{xs:List AV}{g off:Nat}(n:Nat),RepM w I pl xs g off→RepM w I pl (xs.drop n) g (off+n)
 | [],g,off,n,h=>by simp [RepM]
 | x::xs,g,off,0,h=>h
 | x::xs,g,off,n+1,h=>by
   simp only [RepM] at h
   simpa [show off+(n+1)=off+1+n by omega] using repM_drop n h.2
theorem repM_take:∀{xs:List AV}{g off:Nat}(n:Nat),RepM w I pl xs g off→RepM w I pl (xs.take n) g off
 | [],g,off,n,h=>by simp [RepM]
 | x::xs,g,off,0,h=>by simp [RepM]
 | x::xs,g,off,n+1,h=>by
   simp only [RepM] at h
   simp only [List.take_succ_cons,RepM]
   exact⟨h.1,repM_take n h.2⟩
theorem repE_get:∀{es:List (List AV)}{sz g off:Nat},RepE w I pl sz es g off→∀{i:Nat}{e:List AV},es[i]?=some e→e.length=sz∧RepM w I pl e g (off+i*sz)
 | [],sz,g,off,h,i,x,hx=>by simp at hx
 | e::es,sz,g,off,h,i,x,hx=>by
   simp only [RepE] at h
   cases i with
   | zero=>simp at hx;subst hx;simpa using ⟨h.1,h.2.1⟩
   | succ i =>
     have k:=repE_get h.2.2 (i:=i) (e:=x) (by simpa using hx)
     rwa [show off+(i+1)*sz=off+sz+i*sz by rw [Nat.add_mul];omega]
theorem repE_drop:∀{es:List (List AV)}{sz g off:Nat}(n:Nat),RepE w I pl sz es g off→RepE w I pl sz (es.drop n) g (off+n*sz)
 | [],sz,g,off,n,h=>by simp [RepE]
 | e::es,sz,g,off,0,h=>by simpa using h
 | e::es,sz,g,off,n+1,h=>by
   simp only [RepE] at h
   have k:=repE_drop n h.2.2
   simpa [show off+(n+1)*sz=off+sz+n*sz by rw [Nat.add_mul];omega] using k
theorem repE_take:∀{es:List (List AV)}{sz g off:Nat}(n:Nat),RepE w I pl sz es g off→RepE w I pl sz (es.take n) g off
 | [],sz,g,off,n,h=>by simp [RepE]
 | e::es,sz,g,off,0,h=>by simp [RepE]
 | e::es,sz,g,off,n+1,h=>by
   simp only [RepE] at h
   simp only [List.take_succ_cons,RepE]
   exact⟨h.1,h.2.1,repE_take n h.2.2⟩
theorem repE_list:∀{es:List (List AV)}{sz g off:Nat},RepE w I pl sz es g off→(∀ e∈es,e.length=sz)∧RepM w I pl es.flatten g off
 | [],sz,g,off,h=>by simp [RepM]
 | e::es,sz,g,off,h=>by
   simp only [RepE] at h
   have k:=repE_list h.2.2
   refine⟨?_,?_⟩
   ·intro x hx
    rcases List.mem_cons.1 hx with rfl|hx
    ·exact h.1
    ·exact k.1 x hx
   ·rw [List.flatten_cons]
    have key:∀(l:List AV)(off:Nat)(m:List AV),RepM w I pl l g off→RepM w I pl m g (off+l.length)→RepM w I pl (l++m) g off:=by
     intro l
     induction l with
     | nil=>intro off m _ hm;simpa using hm
     | cons x l ih =>
       intro off m hl hm
       simp only [RepM] at hl
       simp only [List.cons_append,RepM]
       exact⟨hl.1,ih _ _ hl.2 (by simpa [show off+(l.length+1)=off+1+l.length by omega] using hm)⟩
    exact key _ _ _ h.2.1 (by rw [h.1];exact k.2)
theorem rep_cells{x:AV}{cs:List AV}{v:Value}(hx:Rep w I pl x v)(hc:cellsOf x=some cs):∃ vs:List Value,v.cells=vs.toArray∧(∀ u∈vs,u.oneCell'=true)∧RepL w I pl cs vs:=by
 have one:∀{x:AV}{v:Value},Rep w I pl x v→v.oneCell'=true→v.cells=#[v]→∃ vs:List Value,v.cells=vs.toArray∧(∀ u∈vs,u.oneCell'=true)∧RepL w I pl [x] vs:=by
  intro x v h1 h2 h3
  refine⟨[v],by rw [h3],by simpa using h2,?_⟩
  simp only [RepL]
  exact⟨v,[],rfl,h1,rfl⟩
 cases x<;>simp only [cellsOf,Option.some.injEq] at hc<;>first|(cases hc;done)|subst hc
 case agg xs =>
  simp only [Rep] at hx
  obtain⟨vs,rfl,h1,h2⟩:=hx
  exact⟨vs,rfl,h1,h2⟩
 case row b off n =>
  have h0:=hx
  simp only [Rep] at h0
  rcases h0 with ⟨_,_,_,rfl⟩|⟨g,sz,cap,_,_,rfl⟩
  ·exact one hx rfl rfl
  ·exact one hx rfl rfl
 all_goals
  refine one hx ?_ ?_
  all_goals
   simp only [Rep] at hx
   first
    | (subst hx;rfl)
    | (obtain⟨_,rfl,_⟩:=hx;rfl)
    | (obtain⟨_,_,rfl,_⟩:=hx;rfl)
    | (obtain⟨_,_,_,rfl,_⟩:=hx;rfl)
    | (obtain⟨_,_,_,_,rfl⟩:=hx;rfl)
end
def OpOK(P:Program)(o:Oper)(ev:Operand→Value)(w:World)(I:Nat→Prop)(pl:Plan)(hp:Hp)(base:Nat)(x:AV)(up:Hp):Prop :=
 ∃ res v w' I' pl',(execOp ev o).run P w = .ok res w'∧(res = .value v∨(res = .skip∧v=undef))∧Rep w' I' pl' x v∧Stp w I pl hp w' I' pl' (up++hp)∧HR w' I' pl' (up++hp) ∧
  ∀ b,(b<base∨base+64≤b)→pl' b=pl b
theorem OpOK.same{P:Program}{o:Oper}{ev:Operand→Value}{w:World}{I:Nat→Prop}{pl:Plan}{hp:Hp}{base:Nat}{x:AV}(v:Value)(hr:HR w I pl hp)
  (h:(execOp ev o).run P w = .ok (.value v) w) (hx:Rep w I pl x v):OpOK P o ev w I pl hp base x [] :=
 ⟨.value v,v,w,I,pl,h,.inl rfl,hx,by simpa using Stp.refl w I pl hp,by simpa using hr,fun _ _=>rfl⟩
section
variable {G : Gl} {P : Program} {w : World} {I : Nat → Prop} {pl : Plan} {hp : Hp}
theorem run_und{t:Nat}{i:TI}(h:TyOK P t i)(w:World):(underlying t).run P w = .ok i.desc w:=by
 simp [underlying,h.und]
theorem run_size{t:Nat}{i:TI}(h:TyOK P t i)(w:World):(sizeOf t).run P w = .ok i.size w:=by
 obtain⟨inf,z,h1,h2,_⟩:=h.info
 simp [sizeOf,typeInfo,h1,h2]
theorem run_agg{t:Nat}{i:TI}(h:TyOK P t i)(w:World):(isAgg t).run P w = .ok i.agg w:=by
 unfold isAgg
 simp only [Sem.run_bind,run_und h,Result.andThen_ok]
 unfold TI.agg
 cases i.desc<;>rfl
theorem add_none(g off n:Nat):(⟨g,off,none⟩:Addr).add n=⟨g,off+n,none⟩:=by
 unfold Addr.add
 split<;>simp_all
theorem run_load_at{T:Nat}{i:TI}(h:TyOK P T i)(g off:Nat)(us:List Value)(hl:us.length=i.size)(hc:∀ j v,us[j]?=some v→cellAt w g (off+j)=some v) :
  i.agg=true→(Instr.loadAt T (.pointer (some ⟨g,off,none⟩))).run P w = .ok (.agg us.toArray) w:=by
 intro ha
 have hk:=run_loadCells_list (P:=P) w ⟨g,off,none⟩ us (fun j v hj=>by rw [add_none];exact hc j v hj)
 simp [Instr.loadAt,Instr.sureAddr,loadVar,run_agg h,ha,run_size h,← hl,hk]
theorem run_load_one{T:Nat}{i:TI}(h:TyOK P T i)(g off:Nat)(u:Value)(hc:cellAt w g off=some u) :
  i.agg=false→(Instr.loadAt T (.pointer (some ⟨g,off,none⟩))).run P w = .ok u w:=by
 intro ha
 have hc':w.cell? ⟨g,off,none⟩=some u:=hc
 simp [Instr.loadAt,Instr.sureAddr,loadVar,run_agg h,ha,run_load,hc']
theorem run_load_any{T:Nat}{i:TI}(h:TyOK P T i)(g off:Nat)(us:List Value)(hl:us.length=i.size)(hc:∀ j v,us[j]?=some v→cellAt w g (off+j)=some v)(h1:∀ u∈us,u.oneCell'=true)
  {cs:List AV} (hr:RepL w I pl cs us) {x:AV} (hx:ofCells i.agg cs=some x) :
  ∃ v,(Instr.loadAt T (.pointer (some ⟨g,off,none⟩))).run P w = .ok v w∧Rep w I pl x v:=by
 unfold ofCells at hx
 cases ha:i.agg
 ·simp only [ha,Bool.false_eq_true,if_false] at hx
  split at hx
  ·rename_i y
   injection hx with hx
   subst hx
   simp only [RepL] at hr
   obtain⟨v,vs',rfl,h2,rfl⟩:=hr
   exact⟨v,run_load_one h g off v (hc 0 v (by simp)) ha,h2⟩
  ·cases hx
 ·simp only [ha,if_true,Option.some.injEq] at hx
  subst hx
  refine⟨_,run_load_at h g off us hl hc ha,?_⟩
  simp only [Rep]
  exact⟨us,rfl,h1,hr⟩
theorem takeN_some{cs:List AV}{off n:Nat}{r:List AV}(h:takeN cs off n=some r):off+n≤cs.length∧r=(cs.drop off).take n∧r.length=n:=by
 unfold takeN at h
 split at h
 ·injection h with h
  subst h
  refine⟨‹_›,rfl,?_⟩
  simp only [List.length_take,List.length_drop]
  omega
 ·cases h
theorem heap_cell{g off:Nat}{vs:List Value}{T:Nat}{fr:Nat×Nat}(h:w.heap[g]?=some (.cells vs.toArray T fr)):cellAt w g off=vs[off]?:=by
 unfold cellAt World.cell?
 simp [h]
theorem flat_get{es:List (List AV)}{sz k:Nat}{e:List AV}(hs:∀ e∈es,e.length=sz)(hk:es[k]?=some e):(es.flatten.drop (k*sz)).take sz=e:=by
 induction es generalizing k with
 | nil=>simp at hk
 | cons a es ih =>
   have ha:a.length=sz:=hs a (by simp)
   cases k with
   | zero =>
     simp at hk
     subst hk
     simp [← ha]
   | succ k =>
     have:=ih (fun e he=>hs e (by simp [he])) (by simpa using hk)
     rw [List.flatten_cons,List.drop_append,List.drop_eq_nil_of_le (by rw [ha,Nat.add_mul];omega),List.nil_append,ha,show (k+1)*sz-sz=k*sz by rw [Nat.add_mul];omega]
     exact this
theorem flat_len{es:List (List AV)}{sz:Nat}(hs:∀ e∈es,e.length=sz):es.flatten.length=es.length*sz:=by
 induction es with
 | nil=>simp
 | cons a es ih =>
   simp only [List.flatten_cons,List.length_append,List.length_cons,hs a (by simp),ih (fun e he=>hs e (by simp [he]))]
   rw [Nat.add_mul];omega
theorem load_ok(hG:GOK G P)(hr:HR w I pl hp){T:Nat}{a:AV}{av:Value}(ha:Rep w I pl a av){x:AV}(h:loadD G hp T a=some x) :
  ∃ v,(Instr.loadAt T av).run P w = .ok v w∧Rep w I pl x v:=by
 unfold loadD at h
 split at h
 ·cases h
 rename_i i hT
 have hty:=hG.ty _ _ hT
 split at h
 ·rename_i b off
  split at h
  ·rename_i T' cs hb
   obtain⟨g,sz,cap,vs,h1,h2,h3,h4⟩:=hr.obj _ _ hb
   simp only [Rep] at ha
   obtain⟨g',sz',cap',h1',rfl⟩:=ha
   rw [h1] at h1'
   injection h1' with h1'
   injection h1' with e1 e2 e3
   subst e1
   cases ht:takeN cs off i.size with
   | none=>simp [ht] at h
   | some r =>
     simp [ht] at h
     obtain⟨k1,rfl,k3⟩:=takeN_some ht
     have hlen:=repL_length h4
     have hr':=repL_take i.size (repL_drop off h4)
     refine run_load_any hty g off ((vs.drop off).take i.size) ?_ ?_ ?_ hr' h
     ·simp only [List.length_take,List.length_drop];omega
     ·intro j v hj
      rw [heap_cell h2]
      rw [List.getElem?_take] at hj
      split at hj
      ·rw [List.getElem?_drop] at hj
       exact hj
      ·cases hj
     ·intro u hu
      exact h3 u (List.mem_of_mem_drop (List.mem_of_mem_take hu))
  ·cases h
 ·rename_i b k off
  split at h
  ·rename_i T' sz0 es hb
   split at h
   ·rename_i e hk
    simp only [Rep] at ha
    obtain⟨g',sz',cap',h1',rfl⟩:=ha
    rcases hr.obj _ _ hb with ⟨h0,rfl⟩|⟨g,cap,vs,h1,h2,h3,h4,h5,h6,h7,h8⟩
    ·simp at hk
    rw [h1] at h1'
    injection h1' with h1'
    injection h1' with e1 e2 e3
    subst e1 e2
    cases ht:takeN e off i.size with
    | none=>simp [ht] at h
    | some r =>
      simp [ht] at h
      obtain⟨k1,rfl,k3⟩:=takeN_some ht
      have he:=h6 e (List.mem_of_getElem? hk)
      have hklt:k<es.length:=(List.getElem?_eq_some_iff.1 hk).1
      have hmul:(k+1)*sz0≤es.length*sz0:=Nat.mul_le_mul_right _ hklt
      rw [Nat.add_mul,Nat.one_mul] at hmul
      have hcapm:es.length*sz0≤cap*sz0:=Nat.mul_le_mul_right _ h3
      have hr':=repL_take i.size (repL_drop off (repL_take sz0 (repL_drop (k*sz0) h8)))
      rw [flat_get h6 hk] at hr'
      refine run_load_any hty g (k*sz0+off) _ ?_ ?_ ?_ hr' h
      ·simp only [List.length_take,List.length_drop];omega
      ·intro j v hj
       rw [heap_cell h2]
       rw [List.getElem?_take] at hj
       split at hj
       ·rw [List.getElem?_drop,List.getElem?_take] at hj
        split at hj
        ·rw [List.getElem?_drop,List.getElem?_take] at hj
         split at hj
         ·rwa [← Nat.add_assoc] at hj
         ·cases hj
        ·cases hj
       ·cases hj
      ·intro u hu
       exact h7 u (List.mem_of_mem_drop (List.mem_of_mem_take (List.mem_of_mem_drop (List.mem_of_mem_take hu))))
   ·cases h
  ·cases h
 ·rename_i cs
  simp only [Rep] at ha
  obtain⟨g,off,rfl,hg,hm⟩:=ha
  cases ht:takeN cs 0 i.size with
  | none=>simp [ht] at h
  | some r =>
    simp [ht] at h
    obtain⟨k1,rfl,k3⟩:=takeN_some ht
    obtain⟨vs,m1,m2,m3,m4⟩:=repM_list (repM_take i.size (repM_drop 0 hm))
    refine run_load_any hty g off vs (by rw [m1];exact k3) (fun j v hj=>by simpa using m2 j v hj) m3 (RepL.mono (Keeps.refl _ _) (fun _ h=>h) (nopl_le _) _ m4) h
 ·cases h
end
section
variable {G : Gl} {P : Program} {w : World} {I : Nat → Prop} {pl : Plan} {hp : Hp}
theorem fieldOf_some(hG:GOK G P){S f o:Nat}{i:TI}(h:fieldOf G S f=some (o,i)):∃ fs fd iS,TyOK P S iS∧iS.desc = .struct fs∧fs[f]?=some fd∧fd.offset=o∧TyOK P fd.type i:=by
 unfold fieldOf at h
 split at h
 ·rename_i desc size bytes zero fs hS
  split at h
  ·rename_i fd hf
   cases ht:G.ty fd.type with
   | none=>simp [ht] at h
   | some j =>
     simp [ht] at h
     obtain⟨rfl,rfl⟩:=h
     exact⟨_,fd,_,hG.ty _ _ hS,rfl,hf,rfl,hG.ty _ _ ht⟩
  ·cases h
 ·cases h
theorem run_fieldAt{S f:Nat}{iS i:TI}{fs:Array Field}{fd:Field}(hS:TyOK P S iS)(hd:iS.desc = .struct fs)(hf:fs[f]?=some fd)(hi:TyOK P fd.type i)(h0:i.size≠0)(g off:Nat) :
  (Instr.fieldAt S (.pointer (some ⟨g,off,none⟩)) f).run P w = .ok (.pointer (some ⟨g,off+fd.offset,none⟩)) w:=by
 simp [Instr.fieldAt,run_und hS,hd,hf,Instr.sureAddr,fieldPlace,run_size hi,h0,add_none]
theorem fieldAddr_ok(hG:GOK G P){S f:Nat}{a:AV}{av:Value}(ha:Rep w I pl a av){x:AV}(h:fieldAddrD G S a f=some x) :
  ∃ v,(Instr.fieldAt S av f).run P w = .ok v w∧Rep w I pl x v:=by
 unfold fieldAddrD at h
 split at h
 ·rename_i o i hf
  obtain⟨fs,fd,iS,hS,hd,hfd,rfl,hi⟩:=fieldOf_some hG hf
  split at h
  ·cases h
  rename_i h0
  split at h
  ·rename_i b off
   injection h with h
   subst h
   simp only [Rep] at ha ⊢
   obtain⟨g,sz,cap,h1,rfl⟩:=ha
   exact⟨_,run_fieldAt hS hd hfd hi h0 g off,g,sz,cap,h1,rfl⟩
  ·rename_i b k off
   injection h with h
   subst h
   simp only [Rep] at ha ⊢
   obtain⟨g,sz,cap,h1,rfl⟩:=ha
   exact⟨_,run_fieldAt hS hd hfd hi h0 g _,g,sz,cap,h1,by rw [Nat.add_assoc]⟩
  ·rename_i cs
   split at h
   ·injection h with h
    subst h
    simp only [Rep] at ha ⊢
    obtain⟨g,off,rfl,h1,h2⟩:=ha
    exact⟨_,run_fieldAt hS hd hfd hi h0 g off,g,off+fd.offset,rfl,h1,repM_drop _ h2⟩
   ·cases h
  ·cases h
 ·cases h
theorem run_part{T:Nat}{i:TI}(hT:TyOK P T i){cs:List AV}{vs:List Value}(h1:∀ u∈vs,u.oneCell'=true)(hr:RepL w I pl cs vs){off:Nat}{r:List AV}(ht:takeN cs off i.size=some r){x:AV}(hx:ofCells i.agg r=some x) :
  ∃ v,(part T vs.toArray off).run P w = .ok v w∧Rep w I pl x v:=by
 obtain⟨k1,rfl,k3⟩:=takeN_some ht
 have hlen:=repL_length hr
 have hr':=repL_take i.size (repL_drop off hr)
 unfold ofCells at hx
 cases ha:i.agg
 ·simp only [ha,Bool.false_eq_true,if_false] at hx
  split at hx
  ·rename_i y hy
   injection hx with hx
   subst hx
   rw [hy] at hr'
   simp only [RepL] at hr'
   obtain⟨v,vs',e,h2,rfl⟩:=hr'
   have hv:vs[off]?=some v:=by
    have:=congrArg (·[0]?) e
    rw [hy] at k3
    simp at k3
    simpa [← k3] using this
   refine⟨v,?_,h2⟩
   have hlt:off<vs.length:=(List.getElem?_eq_some_iff.1 hv).1
   simp [part,run_agg hT,ha,hv]
  ·cases hx
 ·simp only [ha,if_true,Option.some.injEq] at hx
  subst hx
  refine⟨.agg ((vs.drop off).take i.size).toArray,?_,?_⟩
  ·simp only [part,Sem.run_bind,run_agg hT,ha,Result.andThen_ok,if_true,run_size hT,Sem.run_pure]
   congr 2
   simp [List.take_drop]
  ·simp only [Rep]
   exact⟨_,rfl,fun u hu=>h1 u (List.mem_of_mem_drop (List.mem_of_mem_take hu)),hr'⟩
theorem field_ok(hG:GOK G P){S f:Nat}{a:AV}{av:Value}(ha:Rep w I pl a av){x:AV}(h:fieldD G S a f=some x) :
  ∃ v,(Instr.field S av f).run P w = .ok v w∧Rep w I pl x v:=by
 unfold fieldD at h
 split at h
 ·rename_i o i cs hf
  obtain⟨fs,fd,iS,hS,hd,hfd,rfl,hi⟩:=fieldOf_some hG hf
  simp only [Rep] at ha
  obtain⟨vs,rfl,h1,h2⟩:=ha
  cases ht:takeN cs fd.offset i.size with
  | none=>simp [ht] at h
  | some r =>
    simp [ht] at h
    obtain⟨v,hv,hx⟩:=run_part hi h1 h2 ht h
    exact⟨v,by simp [Instr.field,run_und hS,hd,hfd,asAgg,hv],hx⟩
 ·cases h
theorem sliceElem_some(hG:GOK G P){T:Nat}{i:TI}(h:sliceElem G T=some i):∃ e iT,TyOK P T iT∧iT.desc = .slice e∧TyOK P e i:=by
 unfold sliceElem at h
 split at h
 ·rename_i desc size bytes e zero hT
  exact⟨_,_,hG.ty _ _ hT,rfl,hG.ty _ _ h⟩
 ·cases h
theorem run_indexAt{T e:Nat}{iT i:TI}(hT:TyOK P T iT)(hd:iT.desc = .slice e)(hi:TyOK P e i)(g off len c:Nat)(k:IntKind)(n:Int)(h0:0≤n)(h1:n<len) :
  (Instr.indexAt T (.slice (some ⟨g,off,none⟩) len c) (.int k n)).run P w = .ok (.pointer (some ⟨g,off+n.toNat*i.size,none⟩)) w:=by
 simp [Instr.indexAt,asIntOf,run_und hT,hd,run_size hi,h0,h1,add_none]
theorem arrElem_some(hG:GOK G P){T n:Nat}{i:TI}(h:arrElem G T=some (n,i)):∃ e iT,TyOK P T iT∧iT.desc = .array n e∧TyOK P e i:=by
 unfold arrElem at h
 split at h
 ·rename_i x m e size bytes zero hT
  cases he:G.ty e with
  | none=>simp [he] at h
  | some j =>
    simp [he] at h
    obtain⟨rfl,rfl⟩:=h
    exact⟨_,_,hG.ty _ _ hT,rfl,hG.ty _ _ he⟩
 ·cases h
theorem run_indexArr{T e len:Nat}{iT i:TI}(hT:TyOK P T iT)(hd:iT.desc = .array len e)(hi:TyOK P e i)(g off:Nat)(k:IntKind)(n:Int)(h0:0≤n)(h1:n<len) :
  (Instr.indexAt T (.pointer (some ⟨g,off,none⟩)) (.int k n)).run P w = .ok (.pointer (some ⟨g,off+n.toNat*i.size,none⟩)) w:=by
 simp [Instr.indexAt,asIntOf,Instr.sureAddr,run_und hT,hd,run_size hi,h0,h1,add_none]
theorem indexAddr_ok(hG:GOK G P)(hr:HR w I pl hp){T:Nat}{a ix:AV}{av iv:Value}(ha:Rep w I pl a av)(hi:Rep w I pl ix iv){x:AV}(h:indexAddrD G hp T a ix=some x) :
  ∃ v,(Instr.indexAt T av iv).run P w = .ok v w∧Rep w I pl x v:=by
 unfold indexAddrD at h
 split at h
 ·rename_i k n
  simp only [Rep] at hi
  subst hi
  split at h
  ·rename_i h0
   split at h
   ·rename_i ie he
    obtain⟨e,iT,hT,hd,hie⟩:=sliceElem_some hG he
    split at h
    ·rename_i sz es
     split at h
     ·rename_i hsz
      have hsz':=Nat.eq_of_beq_eq_true hsz
      subst hsz'
      cases hk:es[n.toNat]? with
      | none=>simp [hk] at h
      | some el =>
        simp [hk] at h
        subst h
        have hlt:n.toNat<es.length:=(List.getElem?_eq_some_iff.1 hk).1
        simp only [Rep] at ha ⊢
        obtain⟨a',n',c,rfl,rfl,h3,h4,h5⟩:=ha
        rcases h5 with rfl|⟨g,off,rfl,hg,hE⟩
        ·simp at hlt
        obtain⟨m1,m2⟩:=repE_get hE hk
        exact⟨_,run_indexAt hT hd hie g off es.length c k n h0 (by omega),g,_,rfl,hg,m2⟩
     ·cases h
    ·rename_i b off len
     split at h
     ·rename_i T' sz es hb
      split at h
      ·rename_i hc
       injection h with h
       subst h
       simp only [Rep] at ha ⊢
       rcases ha with ⟨h1,h2,h3,rfl⟩|⟨g,sz',cap,h1,h2,rfl⟩
       ·omega
       rcases hr.obj _ _ hb with ⟨h0',rfl⟩|⟨g2,cap2,vs,k1,k2,k3,k4,k5,k6,k7,k8⟩
       ·simp at hc;omega
       rw [h1] at k1
       injection k1 with k1
       injection k1 with e1 e2 e3
       subst e1 e2 e3
       refine⟨_,run_indexAt hT hd hie g _ len _ k n h0 (by omega),g,sz',cap,h1,?_⟩
       rw [hc.2.2]
       congr 3
       rw [Nat.add_mul]
       omega
      ·cases h
     ·cases h
    ·cases h
   ·split at h
    ·rename_i b off len ie hae
     obtain⟨e,iT,hT,hd,hie⟩:=arrElem_some hG hae
     split at h
     ·rename_i hlt
      injection h with h
      subst h
      simp only [Rep] at ha ⊢
      obtain⟨g,sz,cap,h1,rfl⟩:=ha
      exact⟨_,run_indexArr hT hd hie g off k n h0 (by omega),g,sz,cap,h1,rfl⟩
     ·cases h
    ·cases h
  ·cases h
 ·cases h
theorem isStrT_some(hG:GOK G P){T:Nat}(h:isStrT G T=true):∃ i,TyOK P T i∧i.desc = .string:=by
 unfold isStrT at h
 split at h
 ·rename_i h';exact⟨_,hG.ty _ _ h',rfl⟩
 ·cases h
theorem isSliceT_some(hG:GOK G P){T:Nat}(h:isSliceT G T=true):∃ i e,TyOK P T i∧i.desc = .slice e:=by
 unfold isSliceT at h
 split at h
 ·rename_i h';exact⟨_,_,hG.ty _ _ h',rfl⟩
 ·cases h
theorem index_ok(hG:GOK G P){T:Nat}{a ix:AV}{av iv:Value}(ha:Rep w I pl a av)(hi:Rep w I pl ix iv){x:AV}(h:indexD G T a ix=some x) :
  ∃ v,(Instr.index T av iv).run P w = .ok v w∧Rep w I pl x v:=by
 unfold indexD at h
 split at h
 ·rename_i k n
  simp only [Rep] at hi
  subst hi
  split at h
  ·rename_i h0
   split at h
   ·rename_i s
    split at h
    ·rename_i hT
     obtain⟨iT,hty,hd⟩:=isStrT_some hG hT
     simp only [Rep] at ha
     obtain⟨t,rfl,rfl⟩:=ha
     cases hc:t.data.toList[n.toNat]? with
     | none=>simp [hc] at h
     | some c =>
       simp [hc] at h
       subst h
       have hlt:n.toNat<t.data.toList.length:=(List.getElem?_eq_some_iff.1 hc).1
       have hlt':n.toNat<t.size:=by simpa using hlt
       have hg:t[n.toNat]?=some c:=by
        rw [ByteArray.getElem?_lt' t _ hlt']
        rw [List.getElem?_eq_getElem hlt] at hc
        injection hc with hc
        rw [← hc]
        rfl
       refine⟨.int .u8 c.toNat,?_,by simp only [Rep]⟩
       simp [Instr.index,asIntOf,run_und hty,hd,h0,hg]
    ·cases h
   ·rename_i cs
    split at h
    ·rename_i len ie he
     obtain⟨e,iT,hty,hd,hie⟩:=arrElem_some hG he
     split at h
     ·rename_i hlt
      simp only [Rep] at ha
      obtain⟨vs,rfl,h1,h2⟩:=ha
      cases ht:takeN cs (n.toNat*ie.size) ie.size with
      | none=>simp [ht] at h
      | some r =>
        simp [ht] at h
        obtain⟨v,hv,hx⟩:=run_part hie h1 h2 ht h
        refine⟨v,?_,hx⟩
        have hlt':n<(len:Int):=by omega
        simp [Instr.index,asIntOf,run_und hty,hd,h0,hlt',run_size hie,hv]
     ·cases h
    ·cases h
   ·cases h
  ·cases h
 ·cases h
theorem bound_some{d:Nat}{lo:Option AV}{l:Nat}(h:bound d lo=some l):(lo=none∧l=d)∨∃ k n,lo=some (.int k n)∧0≤n∧n.toNat=l:=by
 unfold bound at h
 split at h
 ·injection h with h
  exact .inl ⟨rfl,h.symm⟩
 ·rename_i k n
  split at h
  ·injection h with h
   exact .inr ⟨k,n,rfl,by assumption,h⟩
  ·cases h
 ·cases h
def RepO(w:World)(I:Nat→Prop)(pl:Plan):Option AV→Option Value→Prop
 | none,v=>v=none
 | some x,v=>∃ u,v=some u∧Rep w I pl x u
theorem run_bounds(isS:Bool)(len cap:Nat)(hc:len≤cap){lo hi:Option AV}{lv hv:Option Value}(h1:RepO w I pl lo lv)(h2:RepO w I pl hi hv){l h:Nat}(hl:bound 0 lo=some l)(hh:bound len hi=some h)(hlh:l≤h)(hhl:h≤len) :
  (Instr.sliceBounds isS len cap lv hv none).run P w = .ok (l,h,cap) w:=by
 have e2:∀ code,((match hv,(none:Option Value) with
  | some v,some _=>Instr.sliceBound v cap .slice3B
  | some v,none=>Instr.sliceBound v cap code
  | none,none=>pure len
  | none,some _=>stuck "Slice: max without high"):Sem Nat).run P w = .ok h w:=by
  intro code
  rcases bound_some hh with ⟨rfl,rfl⟩|⟨k,n,rfl,n0,rfl⟩
  ·simp only [RepO] at h2
   subst h2
   rfl
  ·simp only [RepO,Rep] at h2
   obtain⟨u,rfl,rfl⟩:=h2
   exact run_sliceBound (P:=P) w k n cap code n0 (by omega)
 rcases bound_some hl with ⟨rfl,rfl⟩|⟨k,n,rfl,n0,rfl⟩
 ·simp only [RepO] at h1
  subst h1
  rcases bound_some hh with ⟨rfl,rfl⟩|⟨k,n,rfl,n0,rfl⟩
  ·simp only [RepO] at h2
   subst h2
   simp [Instr.sliceBounds]
  ·simp only [RepO,Rep] at h2
   obtain⟨u,rfl,rfl⟩:=h2
   simp [Instr.sliceBounds,run_sliceBound (P:=P) w k n cap _ n0 (by omega)]
 ·simp only [RepO,Rep] at h1
  obtain⟨u,rfl,rfl⟩:=h1
  rcases bound_some hh with ⟨rfl,rfl⟩|⟨k2,n2,rfl,n02,rfl⟩
  ·simp only [RepO] at h2
   subst h2
   simp [Instr.sliceBounds,run_sliceBound (P:=P) w k n h _ n0 (by omega)]
  ·simp only [RepO,Rep] at h2
   obtain⟨u,rfl,rfl⟩:=h2
   simp [Instr.sliceBounds,run_sliceBound (P:=P) w k2 n2 cap _ n02 (by omega),run_sliceBound (P:=P) w k n n2.toNat _ n0 (by omega)]
theorem extract_list(t:ByteArray)(l h:Nat):(t.extract l h).data.toList=(t.data.toList.drop l).take (h-l):=by
 simp [ByteArray.extract,ByteArray.copySlice,List.take_drop]
 try rfl
theorem slice_ok(hG:GOK G P)(hr:HR w I pl hp){T:Nat}{a:AV}{lo hi:Option AV}{av:Value}{lv hv:Option Value}(ha:Rep w I pl a av)(h1:RepO w I pl lo lv)(h2:RepO w I pl hi hv){x:AV}(h:sliceD G hp T a lo hi=some x) :
  ∃ v,(Instr.sliceAt T av lv hv none).run P w = .ok v w∧Rep w I pl x v:=by
 unfold sliceD at h
 split at h
 ·rename_i s
  split at h
  ·rename_i hT
   obtain⟨i,hty,hd⟩:=isStrT_some hG hT
   split at h
   ·rename_i l hh hl hhh
    split at h
    ·rename_i hc
     injection h with h
     subst h
     simp only [Rep] at ha
     obtain⟨t,rfl,rfl⟩:=ha
     have hb:=run_bounds (P:=P) (w:=w) (I:=I) (pl:=pl) false t.size t.size (Nat.le_refl _) h1 h2 hl (by simpa using hhh) hc.1 (by simpa using hc.2)
     refine⟨.string (t.extract l hh),?_,?_⟩
     ·simp [Instr.sliceAt,run_und hty,hd,Instr.slice,hb]
     ·simp only [Rep]
      exact⟨_,rfl,extract_list t l hh⟩
    ·cases h
   ·cases h
  ·cases h
 ·rename_i sz es
  split at h
  ·rename_i ie hie0
   obtain⟨e,iT,hT,hd,hie⟩:=sliceElem_some hG hie0
   split at h
   ·rename_i hsz
    have hsz':=Nat.eq_of_beq_eq_true hsz
    subst hsz'
    split at h
    ·rename_i l hh hl hhh
     split at h
     ·rename_i hc
      injection h with h
      subst h
      simp only [Rep] at ha ⊢
      obtain⟨a',n',c,rfl,rfl,h3,h4,h5⟩:=ha
      have hb:=run_bounds (P:=P) (w:=w) (I:=I) (pl:=pl) true es.length c h3 h1 h2 hl hhh hc.1 hc.2
      refine⟨.slice (if c=l then a' else a'.map (·.add (l*ie.size))) (hh-l) (c-l),?_,_,_,_,rfl,?_,by omega,by simp only [maxLen] at *;omega,?_⟩
      ·simp [Instr.sliceAt,run_und hT,hd,Instr.slice,hb,run_size hie]
      ·simp;omega
      ·rcases h5 with rfl|⟨g,off,rfl,hg,hE⟩
       ·left;simp
       ·by_cases hz:hh-l=0
        ·left
         rw [hz]
         simp
        ·right
         have hne:¬ c=l:=by omega
         rw [if_neg hne]
         exact⟨g,off+l*ie.size,by simp [add_none],hg,repE_take _ (repE_drop l hE)⟩
     ·cases h
    ·cases h
   ·cases h
  ·cases h
 ·rename_i b off n
  split at h
  ·rename_i ie hie0
   obtain⟨e,iT,hT,hd,hie⟩:=sliceElem_some hG hie0
   split at h
   ·rename_i T' sz0 es hb
    split at h
    ·rename_i hsz
     have hsz':=Nat.eq_of_beq_eq_true hsz
     subst hsz'
     split at h
     ·rename_i l hh hl hhh
      split at h
      ·rename_i hc
       simp only [Rep] at ha
       have key:∀(a':Option Addr)(c:Nat),n≤c→(Instr.sliceAt T (.slice a' n c) lv hv none).run P w = .ok (.slice (if c=l then a' else a'.map (·.add (l*ie.size))) (hh-l) (c-l)) w:=by
        intro a' c hnc
        have hb:=run_bounds (P:=P) (w:=w) (I:=I) (pl:=pl) true n c hnc h1 h2 hl hhh hc.1 hc.2
        simp [Instr.sliceAt,run_und hT,hd,Instr.slice,hb,run_size hie]
       have hob:=hr.obj _ _ hb
       split at h
       ·rename_i hlh
        subst hlh
        injection h with h
        subst h
        rcases ha with ⟨k1,k2,k3,rfl⟩|⟨g,sz,cap,k1,k2,rfl⟩
        ·subst k3
         refine⟨_,key none 0 (Nat.le_refl _),?_⟩
         simp only [Rep]
         exact⟨_,_,_,rfl,by simp,by omega,by simp only [maxLen];omega,.inl trivial⟩
        ·refine⟨_,key _ (cap-off) (by omega),?_⟩
         simp only [Rep]
         rcases hob with ⟨m1,m2⟩|⟨g2,cap2,vs,m1,m2,m3,m4,_⟩
         ·rw [k1] at m1;cases m1
         ·rw [k1] at m1
          injection m1 with m1
          injection m1 with e1 e2 e3
          subst e1 e2 e3
          exact⟨_,_,_,rfl,by simp,by omega,by simp only [maxLen] at *;omega,.inl trivial⟩
       ·rename_i hlh
        injection h with h
        subst h
        rcases ha with ⟨k1,k2,k3,rfl⟩|⟨g,sz,cap,k1,k2,rfl⟩
        ·omega
        ·refine⟨_,key _ (cap-off) (by omega),?_⟩
         simp only [Rep]
         right
         rcases hob with ⟨m1,m2⟩|⟨g2,cap2,vs,m1,m2,m3,m4,_⟩
         ·rw [k1] at m1;cases m1
         ·rw [k1] at m1
          injection m1 with m1
          injection m1 with e1 e2 e3
          subst e1 e2 e3
          refine⟨g,ie.size,cap,k1,by omega,?_⟩
          rw [if_neg (by omega)]
          simp only [Option.map_some,add_none]
          rw [show off*ie.size+l*ie.size=(off+l)*ie.size by rw [Nat.add_mul],show cap-off-l=cap-(off+l) by omega]
      ·cases h
     ·cases h
    ·cases h
   ·cases h
  ·cases h
 ·cases h
end
section
variable {G : Gl} {P : Program} {w : World} {I : Nat → Prop} {pl : Plan} {hp : Hp}
theorem intOp_ok{op:BinOp}{k:IntKind}{a b:Int}{x:AV}(T:Nat)(h:intOp op k a b=some x)(hs:isShift op=false) :
  ∃ v,(binOp op T (.int k a) (.int k b)).run P w = .ok v w∧Rep w I pl x v:=by
 cases op<;>simp only [isShift] at hs<;>simp only [intOp] at h<;>first|(cases h;done)|skip
 all_goals first
  | (injection h with h;subst h
     refine⟨_,by simp [binOp,Op.intArith,Op.intBits,Op.intCmp];rfl,?_⟩
     simp [Rep];done)
  | (split at h
     ·cases h
     ·rename_i hb
      injection h with h;subst h
      refine⟨_,by simp [binOp,Op.intDiv,hb];rfl,?_⟩
      simp [Rep])
  | skip
theorem shiftOp_ok{op:BinOp}{k k':IntKind}{a b:Int}{x:AV}(T:Nat)(h:shiftOp op k a b=some x)(hs:isShift op=true) :
  ∃ v,(binOp op T (.int k a) (.int k' b)).run P w = .ok v w∧Rep w I pl x v:=by
 unfold shiftOp at h
 split at h
 ·cases h
 rename_i hb
 cases op<;>simp only [isShift] at hs<;>first|(cases hs;done)|skip
 all_goals
  injection h with h
  subst h
  refine⟨_,by simp [binOp,Op.shift,hb];rfl,?_⟩
  simp [Rep]
theorem isBoolT_some(hG:GOK G P){T:Nat}(h:isBoolT G T=true):∃ i,TyOK P T i∧i.desc = .bool:=by
 unfold isBoolT at h
 split at h
 ·rename_i h';exact⟨_,hG.ty _ _ h',rfl⟩
 ·cases h
theorem isFuncT_some(hG:GOK G P){T:Nat}(h:isFuncT G T=true):∃ i a b c,TyOK P T i∧i.desc = .func a b c:=by
 unfold isFuncT at h
 split at h
 ·rename_i h';exact⟨_,_,_,_,hG.ty _ _ h',rfl⟩
 ·cases h
theorem run_binOp_eql(T:Nat)(x y:Value)(r:Bool)(h1:∀ k a,x ≠ .int k a)(h2:∀ s,x ≠ .string s)(h3:∀ k b,x ≠ .float k b)(h4:∀ k a b,x ≠ .complex k a b)(he:(Op.equal T x y).run P w = .ok r w) :
  (binOp .eql T x y).run P w = .ok (.bool r) w∧(binOp .neq T x y).run P w = .ok (.bool (!r)) w:=by
 cases x<;>first|(exact absurd rfl (h1 _ _))|(exact absurd rfl (h2 _))|(exact absurd rfl (h3 _ _))|(exact absurd rfl (h4 _ _ _))|(constructor<;>simp [binOp,he])
theorem bin_ok(hG:GOK G P){op:BinOp}{T:Nat}{a b:AV}{av bv:Value}(ha:Rep w I pl a av)(hb:Rep w I pl b bv){x:AV}(h:binD G op T a b=some x) :
  ∃ v,(binOp op T av bv).run P w = .ok v w∧Rep w I pl x v:=by
 unfold binD at h
 split at h
 ·rename_i k a k' b
  simp only [Rep] at ha hb
  subst ha hb
  split at h
  ·rename_i hs
   exact shiftOp_ok T h hs
  ·rename_i hs
   split at h
   ·rename_i hk
    subst hk
    exact intOp_ok T h (by simpa using hs)
   ·cases h
 ·rename_i a b
  simp only [Rep] at ha hb
  obtain⟨s,rfl,rfl⟩:=ha
  obtain⟨t,rfl,rfl⟩:=hb
  split at h
  ·injection h with h;subst h
   exact⟨_,by simp [binOp,Op.stringOp,ByteArray.toList_eq];rfl,by simp [Rep]⟩
  ·injection h with h;subst h
   exact⟨_,by simp [binOp,Op.stringOp,ByteArray.toList_eq];rfl,by simp [Rep]⟩
  ·split at h
   ·rename_i hl
    injection h with h;subst h
    have hl':¬ (((s.size+t.size:Nat):Int)>IntKind.i64.max):=by
     have e1:s.data.toList.length=s.size:=by simp
     have e2:t.data.toList.length=t.size:=by simp
     have e3:IntKind.i64.max=9223372036854775807:=by decide
     rw [e3]
     omega
    refine⟨.string (s++t),?_,?_⟩
    ·simp only [binOp,Op.stringOp]
     rw [if_neg hl']
     rfl
    ·simp only [Rep]
     exact⟨_,rfl,by simp⟩
   ·cases h
  ·cases h
 ·rename_i a b
  simp only [Rep] at ha hb
  subst ha hb
  split at h
  ·rename_i hT
   obtain⟨i,hty,hd⟩:=isBoolT_some hG hT
   have he:(Op.equal T (.bool a) (.bool b)).run P w = .ok (a==b) w:=by
    unfold Op.equal Op.maxDepth Op.equalIn
    simp [run_und hty,hd]
   have hk:=run_binOp_eql (P:=P) (w:=w) T (.bool a) (.bool b) (a==b) (by simp) (by simp) (by simp) (by simp) he
   split at h
   ·injection h with h;subst h
    exact⟨_,hk.1,by simp [Rep]⟩
   ·injection h with h;subst h
    exact⟨_,hk.2,by simp [Rep]⟩
   ·cases h
  ·cases h
 ·rename_i f cs
  simp only [Rep] at ha hb
  obtain⟨vs,rfl,_⟩:=ha
  subst hb
  split at h
  ·rename_i hT
   obtain⟨i,_,_,_,hty,hd⟩:=isFuncT_some hG hT
   have he:(Op.equal T (.func (.func f) #[] vs.toArray) .nilFunc).run P w = .ok false w:=by
    unfold Op.equal Op.maxDepth Op.equalIn
    simp [run_und hty,hd]
   have hk:=run_binOp_eql (P:=P) (w:=w) T (.func (.func f) #[] vs.toArray) .nilFunc false (by simp) (by simp) (by simp) (by simp) he
   split at h
   ·injection h with h;subst h
    exact⟨_,hk.1,by simp [Rep]⟩
   ·injection h with h;subst h
    exact⟨_,hk.2,by simp [Rep]⟩
   ·cases h
  ·cases h
 ·simp only [Rep] at ha hb
  subst ha hb
  split at h
  ·rename_i hT
   obtain⟨i,e,hty,hd⟩:=isSliceT_some hG hT
   have he:(Op.equal T (.slice none 0 0) (.slice none 0 0)).run P w = .ok true w:=by
    unfold Op.equal Op.maxDepth Op.equalIn
    simp [run_und hty,hd]
   have hk:=run_binOp_eql (P:=P) (w:=w) T (.slice none 0 0) (.slice none 0 0) true (by simp) (by simp) (by simp) (by simp) he
   split at h
   ·injection h with h;subst h
    exact⟨_,hk.1,by simp [Rep]⟩
   ·injection h with h;subst h
    exact⟨_,hk.2,by simp [Rep]⟩
   ·cases h
  ·cases h
 ·rename_i b off n
  simp only [Rep] at ha hb
  subst hb
  rcases ha with ⟨_,_,h3,_⟩|⟨g,sz,cap,h1,h2,rfl⟩
  ·cases h3
  split at h
  ·rename_i hT
   obtain⟨i,e,hty,hd⟩:=isSliceT_some hG hT
   have he:(Op.equal T (.slice (some ⟨g,off*sz,none⟩) (n+1) (cap-off)) (.slice none 0 0)).run P w = .ok false w:=by
    unfold Op.equal Op.maxDepth Op.equalIn
    simp [run_und hty,hd]
   have hk:=run_binOp_eql (P:=P) (w:=w) T (.slice (some ⟨g,off*sz,none⟩) (n+1) (cap-off)) (.slice none 0 0) false (by simp) (by simp) (by simp) (by simp) he
   split at h
   ·injection h with h;subst h
    exact⟨_,hk.1,by simp [Rep]⟩
   ·injection h with h;subst h
    exact⟨_,hk.2,by simp [Rep]⟩
   ·cases h
  ·cases h
 ·rename_i sz e0 es
  simp only [Rep] at ha hb
  subst hb
  obtain⟨a,n,c,rfl,h1,h2,h3,h4⟩:=ha
  rcases h4 with h4|⟨g,off,rfl,_,_⟩
  ·cases h4
  split at h
  ·rename_i hT
   obtain⟨i,e,hty,hd⟩:=isSliceT_some hG hT
   have he:(Op.equal T (.slice (some ⟨g,off,none⟩) n c) (.slice none 0 0)).run P w = .ok false w:=by
    unfold Op.equal Op.maxDepth Op.equalIn
    simp [run_und hty,hd]
   have hk:=run_binOp_eql (P:=P) (w:=w) T (.slice (some ⟨g,off,none⟩) n c) (.slice none 0 0) false (by simp) (by simp) (by simp) (by simp) he
   split at h
   ·injection h with h;subst h
    exact⟨_,hk.1,by simp [Rep]⟩
   ·injection h with h;subst h
    exact⟨_,hk.2,by simp [Rep]⟩
   ·cases h
  ·cases h
 ·simp only [Rep] at ha hb
  subst ha hb
  split at h
  ·rename_i hT
   obtain⟨i,_,_,_,hty,hd⟩:=isFuncT_some hG hT
   have he:(Op.equal T .nilFunc .nilFunc).run P w = .ok true w:=by
    unfold Op.equal Op.maxDepth Op.equalIn
    simp [run_und hty,hd]
   have hk:=run_binOp_eql (P:=P) (w:=w) T .nilFunc .nilFunc true (by simp) (by simp) (by simp) (by simp) he
   split at h
   ·injection h with h;subst h
    exact⟨_,hk.1,by simp [Rep]⟩
   ·injection h with h;subst h
    exact⟨_,hk.2,by simp [Rep]⟩
   ·cases h
  ·cases h
 ·cases h
theorem guard_ok{op:BinOp}{T:Nat}{x y:Operand}{a b:AV}{av bv:Value}(ha:Rep w I pl a av)(hb:Rep w I pl b bv){r:AV}(h:binD G op T a b=some r) :
  (eqGuard op T x y av bv).run P w = .ok () w:=by
 unfold binD at h
 split at h
 ·simp only [Rep] at ha hb;subst ha hb;unfold eqGuard;split<;>rfl
 ·simp only [Rep] at ha hb;obtain⟨s,rfl,_⟩:=ha;obtain⟨t,rfl,_⟩:=hb;unfold eqGuard;split<;>rfl
 ·simp only [Rep] at ha hb;subst ha hb;unfold eqGuard;split<;>rfl
 ·simp only [Rep] at ha hb;obtain⟨vs,rfl,_⟩:=ha;subst hb;unfold eqGuard;split<;>rfl
 ·simp only [Rep] at ha hb;subst ha hb;unfold eqGuard;split<;>rfl
 ·simp only [Rep] at ha hb;subst hb;rcases ha with ⟨_,_,_,rfl⟩|⟨_,_,_,_,_,rfl⟩<;>(unfold eqGuard;split<;>rfl)
 ·simp only [Rep] at ha hb;subst hb;obtain⟨_,_,_,rfl,_⟩:=ha;unfold eqGuard;split<;>rfl
 ·simp only [Rep] at ha hb;subst ha hb;unfold eqGuard;split<;>rfl
 ·cases h
theorem un_ok{op:UnOp}{a:AV}{av:Value}(ha:Rep w I pl a av){x:AV}(h:unD op a=some x) :
  ∃ v,(Op.unary op av).run P w = .ok v w∧Rep w I pl x v:=by
 unfold unD at h
 split at h
 ·simp only [Rep] at ha;subst ha
  injection h with h;subst h
  exact⟨_,by simp [Op.unary];rfl,by simp [Rep]⟩
 ·simp only [Rep] at ha;subst ha
  injection h with h;subst h
  exact⟨_,by simp [Op.unary,Op.intArith];rfl,by simp [Rep]⟩
 ·cases h
theorem conv_ok(hG:GOK G P){S T:Nat}{a:AV}{av:Value}(ha:Rep w I pl a av){x:AV}(h:convD G S T a=some x) :
  ∃ v,(convert S T av).run P w = .ok v w∧Rep w I pl x v:=by
 unfold convD at h
 split at h
 ·rename_i k n iS a1 k' a2 a3 a4 hS hT
  have h1:=hG.ty _ _ hS
  have h2:=hG.ty _ _ hT
  simp only [Rep] at ha
  subst ha
  injection h with h;subst h
  exact⟨.int k' (k'.wrap iS),by simp [convert,run_und h1,run_und h2,Conv.intToInt],by simp only [Rep]⟩
 ·rename_i s iS a1 a2 a3 a4 hS hT
  have h1:=hG.ty _ _ hS
  have h2:=hG.ty _ _ hT
  simp only [Rep] at ha
  obtain⟨t,rfl,rfl⟩:=ha
  injection h with h;subst h
  refine⟨.string t,?_,by simp only [Rep];exact⟨t,rfl,rfl⟩⟩
  simp [convert,run_und h1,run_und h2]
 ·cases h
theorem len_ok(hG:GOK G P){T ty:Nat}{a:AV}{av:Value}(ha:Rep w I pl a av){x:AV}(h:lenD G hp T a=some x) :
  ∃ v,(Builtin.len_ #[T] ty #[av]).run P w = .ok v w∧Rep w I pl x v:=by
 unfold lenD at h
 split at h
 ·split at h
  ·rename_i hT
   obtain⟨i,hty,hd⟩:=isStrT_some hG hT
   simp only [Rep] at ha
   obtain⟨t,rfl,rfl⟩:=ha
   injection h with h;subst h
   exact⟨goInt t.size,by simp [Builtin.len_,run_und hty,hd],by simp [Rep,goInt]⟩
  ·cases h
 ·split at h
  ·rename_i hT
   obtain⟨i,e,hty,hd⟩:=isSliceT_some hG hT
   simp only [Rep] at ha
   obtain⟨a',n,c,rfl,rfl,_⟩:=ha
   injection h with h;subst h
   exact⟨_,by simp [Builtin.len_,run_und hty,hd];rfl,by simp [Rep,goInt]⟩
  ·cases h
 ·split at h
  ·rename_i hT
   obtain⟨i,e,hty,hd⟩:=isSliceT_some hG hT
   injection h with h;subst h
   simp only [Rep] at ha
   rcases ha with ⟨_,_,rfl,rfl⟩|⟨g,sz,cap,_,_,rfl⟩
   ·exact⟨_,by simp [Builtin.len_,run_und hty,hd];rfl,by simp [Rep,goInt]⟩
   ·exact⟨_,by simp [Builtin.len_,run_und hty,hd];rfl,by simp [Rep,goInt]⟩
  ·cases h
 ·split at h
  ·rename_i hT
   obtain⟨i,e,hty,hd⟩:=isSliceT_some hG hT
   simp only [Rep] at ha
   subst ha
   injection h with h;subst h
   exact⟨_,by simp [Builtin.len_,run_und hty,hd];rfl,by simp [Rep,goInt]⟩
  ·cases h
 ·cases h
theorem max_ok(big:Bool):∀(l:List AV){x:AV}{v:Value}{vs:List Value}{r:AV},Rep w I pl x v→RepL w I pl l vs→maxD big x l=some r →
  ∃ u,(vs.foldlM (if big then Builtin.max2 else Builtin.min2) v).run P w = .ok u w∧Rep w I pl r u
 | [],x,v,vs,r,hx,hl,h=>by
   simp only [RepL] at hl
   subst hl
   simp only [maxD] at h
   injection h with h
   subst h
   exact⟨v,by simp,hx⟩
 | y::l,x,v,vs,r,hx,hl,h=>by
   simp only [RepL] at hl
   obtain⟨u,us,rfl,h1,h2⟩:=hl
   unfold maxD at h
   split at h
   ·rename_i heq;cases heq
   ·rename_i k a k' b r' heq
    cases heq
    simp only [Rep] at hx h1
    subst hx h1
    obtain⟨z,hz,hz2⟩:=max_ok big l (x := .int k (if big then (if b>a then b else a) else (if b<a then b else a))) (v := .int k (if big then (if b>a then b else a) else (if b<a then b else a))) (by simp [Rep]) h2 h
    refine⟨z,?_,hz2⟩
    rw [List.foldlM_cons]
    cases big
    ·simp only [Bool.false_eq_true,if_false,Sem.run_bind] at hz ⊢
     simpa [Builtin.min2] using hz
    ·simp only [if_true,Sem.run_bind] at hz ⊢
     simpa [Builtin.max2] using hz
   ·cases h
end
theorem fold_put:∀(new:List Value)(k off:Nat)(l:List Value),off+k+new.length≤l.length →
  ((new.zipIdx k).foldl (fun(cs:Array Value)(x:Value×Nat)=>cs.setIfInBounds (off+x.2) x.1) l.toArray).toList=l.take (off+k)++new++l.drop (off+k+new.length)
 | [],k,off,l,h=>by simp
 | v::new,k,off,l,h=>by
   rw [List.zipIdx_cons,List.foldl_cons]
   have e:(l.toArray.setIfInBounds (off+k) v)=(l.set (off+k) v).toArray:=by simp
   rw [e,fold_put new (k+1) off (l.set (off+k) v) (by simp at h ⊢;omega)]
   have:=list_seg_step l (off+k) v new (by simp at h;omega)
   simp only [← Nat.add_assoc] at this ⊢
   rw [this]
   simp [Nat.add_assoc,Nat.add_comm 1]
def Ones(vs:List Value):Prop:=∀ u∈vs,u.oneCell'=true
section
variable {G : Gl} {P : Program} {w : World} {I : Nat → Prop} {pl : Plan} {hp : Hp}
theorem rep_put{cs:List AV}{vs:List Value}(h:RepL w I pl cs vs){new:List AV}{us:List Value}(hn:RepL w I pl new us)(off:Nat):RepL w I pl (putAt cs off new) (vs.take off++us++vs.drop (off+us.length)):=by
 unfold putAt
 rw [repL_length hn]
 exact repL_append (repL_append (repL_take off h) hn) (repL_drop _ h)
theorem ones_put{vs us:List Value}(h:Ones vs)(k:Ones us)(off n:Nat):Ones (vs.take off++us++vs.drop n):=by
 intro u hu
 rcases List.mem_append.1 hu with hu|hu
 ·rcases List.mem_append.1 hu with hu|hu
  ·exact h u (List.mem_of_mem_take hu)
  ·exact k u hu
 ·exact h u (List.mem_of_mem_drop hu)
def RepP(w:World)(I:Nat→Prop)(pl:Plan):List (Nat×List AV)→List (Nat×Value)→Prop
 | [],vs=>vs=[]
 | (i,cs)::r,vs=>∃ v vs',vs=(i,v)::vs'∧(∃ us:List Value,v.cells=us.toArray∧Ones us∧RepL w I pl cs us)∧RepP w I pl r vs'
theorem fill_ok(place:Nat→Option (Nat×Nat)):∀(ps:List (Nat×List AV)){pv:List (Nat×Value)}{cs r:List AV}{vs:List Value},RepP w I pl ps pv→RepL w I pl cs vs→Ones vs→fillD place cs ps=some r →
  ∃ rs:List Value,Instr.fill place vs.toArray pv=some rs.toArray∧RepL w I pl r rs∧Ones rs
 | [],pv,cs,r,vs,hp,hc,ho,h=>by
   simp only [RepP] at hp
   subst hp
   simp only [fillD] at h
   injection h with h
   subst h
   exact⟨vs,by simp [Instr.fill],hc,ho⟩
 | (i,new)::ps,pv,cs,r,vs,hp,hc,ho,h=>by
   simp only [RepP] at hp
   obtain⟨v,vs',rfl,⟨us,hv,hu,hus⟩,hp'⟩:=hp
   unfold fillD at h
   cases hpl:place i with
   | none=>simp [hpl] at h
   | some q =>
     obtain⟨off,size⟩:=q
     simp only [hpl] at h
     split at h
     ·rename_i hcond
      have hl1:=repL_length hus
      have hl2:=repL_length hc
      obtain⟨rs,k1,k2,k3⟩:=fill_ok place ps hp' (rep_put hc hus off) (ones_put ho hu off (off+us.length)) h
      refine⟨rs,?_,k2,k3⟩
      unfold Instr.fill
      simp only [hpl]
      rw [hv]
      have e1:us.toArray.size=size:=by simp;omega
      have e2:¬ (us.toArray.size≠size||off+us.toArray.size>vs.toArray.size)=true:=by simp;omega
      rw [if_neg e2]
      have e3:us.toArray.zipIdx.foldl (fun cs (x:Value×Nat)=>cs.setIfInBounds (off+x.2) x.1) vs.toArray=(vs.take off++us++vs.drop (off+us.length)).toArray:=by
       apply Array.ext'
       have:=fold_put us 0 off vs (by simp;omega)
       simp only [Nat.add_zero] at this
       rw [← Array.foldl_toList]
       simpa using this
      rw [← e3] at k1
      exact k1
     ·cases h
theorem parts_ok{fr:Fr}{ev:Operand→Value}(hev:∀ x y,opv fr x=some y→Rep w I pl y (ev x)):∀(ps:List (Nat×Operand)){r:List (Nat×List AV)},partsD fr ps=some r→RepP w I pl r (ps.map fun q=>(q.1,ev q.2))
 | [],r,h=>by
   simp only [partsD] at h
   injection h with h
   subst h
   simp [RepP]
 | (i,x)::ps,r,h=>by
   unfold partsD at h
   split at h
   ·rename_i cs l hcs hl
    injection h with h
    subst h
    cases hx:opv fr x with
    | none=>simp [hx] at hcs
    | some y =>
      simp [hx] at hcs
      simp only [List.map_cons,RepP]
      exact⟨_,_,rfl,rep_cells (hev x y hx) hcs,parts_ok hev ps hl⟩
   ·cases h
theorem places_ok(hG:GOK G P):∀(fs:List Field){r:List (Nat×Nat)},places G fs=some r→(fs.mapM (m:=Sem) fun f=>do pure (f.offset,← sizeOf f.type)).run P w = .ok r w
 | [],r,h=>by
   simp only [places] at h
   injection h with h
   subst h
   rfl
 | f::fs,r,h=>by
   unfold places at h
   split at h
   ·rename_i i l hi hl
    injection h with h
    subst h
    have hty:=hG.ty _ _ hi
    have ih:=places_ok hG fs hl
    rw [List.mapM_cons]
    simp only [Sem.run_bind,run_size hty,Result.andThen_ok,Sem.run_pure,ih]
   ·cases h
theorem run_zero{t:Nat}{i:TI}(h:TyOK P t i)(w:World):∃ z:Value,∃ zs:List Value,(zeroValue t).run P w = .ok z w∧z.cells=zs.toArray∧(∀(I:Nat→Prop)(pl:Plan)(w':World),RepL w' I pl i.zero zs)∧Ones zs∧zs.length=i.size∧(if i.agg then z = .agg z.cells else z.cells=#[z]):=by
 obtain⟨inf,z,h1,h2,h3,h4,h5,h6,h7⟩:=h.info
 refine⟨z,z.cells.toList,by simp [zeroValue,typeInfo,h1,h4],by simp,fun I pl w'=>(repL_ofS h5).1,(repL_ofS (w:=w) (I:=fun _=>True) (pl:=fun _=>none) h5).2,by simpa using h6,h7⟩
theorem build_ok(hG:GOK G P){T:Nat}{ps:List (Nat×List AV)}{pv:List (Nat×Value)}(hp:RepP w I pl ps pv){x:AV}(h:buildD G T ps=some x)(arr:Array (Nat×Value))(ha:arr.toList=pv) :
  ∃ v,(Instr.build T arr).run P w = .ok v w∧Rep w I pl x v:=by
 unfold buildD at h
 split at h
 ·rename_i _ fs size bytes z hT
  have hty:=hG.ty _ _ hT
  obtain⟨z0,zs,k1,k2,k3,k4,_⟩:=run_zero hty w
  split at h
  ·rename_i plc hplc
   cases hf:fillD (fun i=>plc[i]?) z ps with
   | none=>simp [hf] at h
   | some r =>
     simp [hf] at h
     subst h
     obtain⟨rs,m1,m2,m3⟩:=fill_ok (fun i=>plc[i]?) ps hp (k3 I pl w) k4 hf
     refine⟨.agg rs.toArray,?_,?_⟩
     ·have hpl2:=places_ok (w:=w) hG fs.toList hplc
      have hpl3:(fs.mapM (m:=Sem) fun f=>do pure (f.offset,← sizeOf f.type)).run P w = .ok plc.toArray w:=by
       rw [Array.mapM_eq_mapM_toList]
       rw [map_eq_pure_bind,Sem.run_bind,hpl2]
       rfl
      have e:∀ i:Nat,(plc.toArray)[i]?=plc[i]?:=fun i=>by simp
      simp only [Instr.build,Sem.run_bind,k1,Result.andThen_ok,run_und hty,hpl3,k2,e,ha,m1,Sem.run_pure]
     ·simp only [Rep]
      exact⟨rs,rfl,m3,m2⟩
  ·cases h
 ·rename_i _ n e size bytes z hT
  have hty:=hG.ty _ _ hT
  obtain⟨z0,zs,k1,k2,k3,k4,_⟩:=run_zero hty w
  split at h
  ·rename_i ie hie
   have hte:=hG.ty _ _ hie
   cases hf:fillD (fun i=>some (i*ie.size,ie.size)) z ps with
   | none=>simp [hf] at h
   | some r =>
     simp [hf] at h
     subst h
     obtain⟨rs,m1,m2,m3⟩:=fill_ok (fun i=>some (i*ie.size,ie.size)) ps hp (k3 I pl w) k4 hf
     refine⟨.agg rs.toArray,?_,?_⟩
     ·simp only [Instr.build,Sem.run_bind,k1,Result.andThen_ok,run_und hty,run_size hte,k2,ha,m1,Sem.run_pure]
     ·simp only [Rep]
      exact⟨rs,rfl,m3,m2⟩
  ·cases h
 ·cases h
end
def upd(pl:Plan)(b:Nat)(x:Pl):Plan:=fun c=>if c=b then some x else pl c
theorem upd_self(pl:Plan)(b:Nat)(x:Pl):upd pl b x b=some x:=by simp [upd]
theorem upd_ne{pl:Plan}{b c:Nat}(x:Pl)(h:c≠b):upd pl b x c=pl c:=by simp [upd,h]
theorem upd_le{pl:Plan}{b:Nat}(x:Pl)(h:pl b=none):pl.le (upd pl b x):=by
 intro c y hc
 by_cases e:c=b
 ·subst e;rw [h] at hc;cases hc
 ·rw [upd_ne x e];exact hc
theorem look_cons_self{α:Type}(k:Nat)(x:α)(l:List (Nat×α)):look k ((k,x)::l)=some x:=by simp [look]
theorem look_cons_ne{α:Type}{k j:Nat}(x:α)(l:List (Nat×α))(h:k≠j):look k ((j,x)::l)=look k l:=by
 have:Nat.beq k j=false:=by
  cases hb:Nat.beq k j
  ·rfl
  ·exact absurd (Nat.eq_of_beq_eq_true hb) h
 show (if Nat.beq k j=true then some x else look k l)=_
 rw [this]
 rfl
theorem look_cons{α:Type}(k j:Nat)(x:α)(l:List (Nat×α)):look k ((j,x)::l)=if k=j then some x else look k l:=by
 by_cases h:k=j
 ·subst h;rw [look_cons_self,if_pos rfl]
 ·rw [look_cons_ne x l h,if_neg h]
section
variable {G : Gl} {P : Program} {w w' : World} {I I' : Nat → Prop} {pl pl' : Plan} {hp : Hp}
theorem RepMap.mono(hk:Keeps I w w')(hi:∀ g,I g→I' g)(hp:pl.le pl'):∀(es:List (List UInt8×AV)){ms:List MapEntry},RepMap w I pl es ms→RepMap w' I' pl' es ms
 | [],ms,h=>by simpa only [RepMap] using h
 | (s,x)::r,ms,h=>by
   simp only [RepMap] at h ⊢
   obtain⟨e,ms',rfl,h1,h2,h3⟩:=h
   exact⟨e,ms',rfl,h1,Rep.mono hk hi hp x h2,RepMap.mono hk hi hp r h3⟩
theorem ObjRep.move{b:Nat}{o:Obj'}(h:ObjRep w I pl b o)(hb:∀ g sz cap,pl b=some (.blk g sz cap)→w'.heap[g]?=w.heap[g]?)(hk:Keeps I w w')(hi:∀ g,I g→I' g)(hp:pl.le pl'):ObjRep w' I' pl' b o:=by
 cases o with
 | var T cs =>
   obtain⟨g,sz,cap,vs,h1,h2,h3,h4⟩:=h
   exact⟨g,sz,cap,vs,hp _ _ h1,(hb _ _ _ h1).trans h2,h3,RepL.mono hk hi hp cs h4⟩
 | arr T sz es =>
   rcases h with ⟨h1,h2⟩|⟨g,cap,vs,h1,h2,h3,h4,h5,h6,h7,h8⟩
   ·exact .inl ⟨hp _ _ h1,h2⟩
   ·exact .inr ⟨g,cap,vs,hp _ _ h1,(hb _ _ _ h1).trans h2,h3,h4,h5,h6,h7,RepL.mono hk hi hp _ h8⟩
 | mapo es =>
   obtain⟨g,sz,cap,ms,clock,h1,h2,h3⟩:=h
   exact⟨g,sz,cap,ms,clock,hp _ _ h1,(hb _ _ _ h1).trans h2,RepMap.mono hk hi hp es h3⟩
 | dead=>trivial
theorem HR.new(hr:HR w I pl hp){base:Nat}(hb:pl base=none)(ob:Go.Obj){o:Obj'}(sz cap:Nat)(ho:ObjRep (w.alloc ob) I (upd pl base (.blk w.heap.size sz cap)) base o) :
  HR (w.alloc ob) I (upd pl base (.blk w.heap.size sz cap)) ((base,o)::hp)∧Stp w I pl hp (w.alloc ob) I (upd pl base (.blk w.heap.size sz cap)) ((base,o)::hp):=by
 have hle:=upd_le (pl:=pl) (b:=base) (.blk w.heap.size sz cap) hb
 have hk:Keeps I w (w.alloc ob):=⟨fun g hg=>heap_alloc_old w ob g (hr.imm g hg)⟩
 have own:∀ g,Own ((base,o)::hp) (upd pl base (.blk w.heap.size sz cap)) g→Own hp pl g∨g=w.heap.size:=by
  rintro g ⟨b,o',sz',cap',h1,h2,h3⟩
  by_cases e:b=base
  ·subst e
   rw [upd_self] at h3
   injection h3 with h3
   injection h3 with h3
   exact .inr h3.symm
  ·rw [upd_ne _ e] at h3
   rw [look_cons_ne _ _ e] at h1
   exact .inl ⟨b,o',sz',cap',h1,h2,h3⟩
 refine⟨⟨?_,?_,?_,?_,?_,GV.mono hk (fun _ h=>h) hr.gv⟩,⟨?_,?_,fun _ h=>h,hle,?_,fun _ h => .inl h,rfl,rfl,rfl⟩⟩
 ·intro b o' h
  by_cases e:b=base
  ·subst e
   rw [look_cons_self] at h
   injection h with h
   subst h
   exact ho
  ·rw [look_cons_ne _ _ e] at h
   by_cases hl:o'.live=true
   ·exact(hr.obj b o' h).move (fun g sz' cap' hg=>heap_alloc_old w ob g (hr.low g ⟨b,o',sz',cap',h,hl,hg⟩)) hk (fun _ h=>h) hle
   ·cases o'<;>simp [Obj'.live] at hl
    trivial
 ·intro b b' o1 o2 g sz1 cap1 sz2 cap2 h1 h2 l1 l2 p1 p2
  by_cases e:b=base<;>by_cases e':b'=base
  ·rw [e,e']
  ·subst e
   rw [upd_self] at p1
   rw [upd_ne _ e'] at p2
   rw [look_cons_ne _ _ e'] at h2
   injection p1 with p1
   injection p1 with p1
   have:=hr.low g ⟨b',o2,sz2,cap2,h2,l2,p2⟩
   omega
  ·subst e'
   rw [upd_self] at p2
   rw [upd_ne _ e] at p1
   rw [look_cons_ne _ _ e] at h1
   injection p2 with p2
   injection p2 with p2
   have:=hr.low g ⟨b,o1,sz1,cap1,h1,l1,p1⟩
   omega
  ·rw [upd_ne _ e] at p1
   rw [upd_ne _ e'] at p2
   rw [look_cons_ne _ _ e] at h1
   rw [look_cons_ne _ _ e'] at h2
   exact hr.inj b b' o1 o2 g sz1 cap1 sz2 cap2 h1 h2 l1 l2 p1 p2
 ·intro g hg
  have:=hr.imm g hg
  simp;omega
 ·intro g hg hI
  rcases own g hg with h|h
  ·exact hr.dis g h hI
  ·have:=hr.imm g hI
   omega
 ·intro g hg
  rcases own g hg with h|h
  ·have:=hr.low g h
   simp;omega
  ·simp;omega
 ·simp
 ·intro k hk' _
  exact heap_alloc_old w ob k hk'
 ·intro g hg
  rcases own g hg with h|h
  ·exact .inl h
  ·exact .inr (by omega)
theorem HR.set(hr:HR w I pl hp){b:Nat}{o o':Obj'}(hb:look b hp=some o)(hl:o.live=true){g sz cap:Nat}(hg:pl b=some (.blk g sz cap))
  (hsz:w'.heap.size=w.heap.size) (hother:∀ k,k≠g→w'.heap[k]?=w.heap[k]?) (hos:w'.os=w.os) (htp:w'.tape=w.tape) (hou:w'.output=w.output)
  (ho:Keeps I w w'→ObjRep w' I pl b o') :
  HR w' I pl ((b,o')::hp)∧Stp w I pl hp w' I pl ((b,o')::hp):=by
 have hown:Own hp pl g:=⟨b,o,sz,cap,hb,hl,hg⟩
 have hk:Keeps I w w':=⟨fun k hk=>hother k (fun e=>hr.dis g hown (e▸hk))⟩
 have own:∀ k,Own ((b,o')::hp) pl k→Own hp pl k:=by
  rintro k ⟨c,o2,sz2,cap2,h1,h2,h3⟩
  by_cases e:c=b
  ·subst e
   exact⟨c,o,sz2,cap2,hb,hl,h3⟩
  ·rw [look_cons_ne _ _ e] at h1
   exact⟨c,o2,sz2,cap2,h1,h2,h3⟩
 refine⟨⟨?_,?_,?_,fun k hk'=>hr.dis k (own k hk'),fun k hk'=>by rw [hsz];exact hr.low k (own k hk'),GV.mono hk (fun _ h=>h) hr.gv⟩,⟨by omega,?_,fun _ h=>h,Plan.le_refl _,fun k hk' => .inl (own k hk'),fun _ h => .inl h,hos,htp,hou⟩⟩
 ·intro c o2 h
  by_cases e:c=b
  ·subst e
   rw [look_cons_self] at h
   injection h with h
   subst h
   exact ho hk
  ·rw [look_cons_ne _ _ e] at h
   by_cases hl2:o2.live=true
   ·refine(hr.obj c o2 h).move (fun k sz2 cap2 hc=>hother k (fun ek=>e ?_)) hk (fun _ h=>h) (Plan.le_refl _)
    subst ek
    exact hr.inj c b o2 o k sz2 cap2 sz cap h hb hl2 hl hc hg
   ·cases o2<;>simp [Obj'.live] at hl2
    trivial
 ·intro c c' o1 o2 k sz1 cap1 sz2 cap2 h1 h2 l1 l2 p1 p2
  have f:∀{c:Nat}{o1:Obj'},look c ((b,o')::hp)=some o1→o1.live=true→∃ o3,look c hp=some o3∧o3.live=true:=by
   intro c o1 h l
   by_cases e:c=b
   ·subst e
    exact⟨o,hb,hl⟩
   ·rw [look_cons_ne _ _ e] at h
    exact⟨o1,h,l⟩
  obtain⟨o3,m1,m2⟩:=f h1 l1
  obtain⟨o4,m3,m4⟩:=f h2 l2
  exact hr.inj c c' o3 o4 k sz1 cap1 sz2 cap2 m1 m3 m2 m4 p1 p2
 ·intro k hk'
  rw [hsz]
  exact hr.imm k hk'
 ·intro k hk' hn
  exact hother k (fun e=>hn (e▸hown))
theorem take_splice{α:Type}(vs us:List α)(p n:Nat)(h1:p+us.length≤n)(h2:n≤vs.length):(vs.take p++us++vs.drop (p+us.length)).take n=(vs.take n).take p++us++(vs.take n).drop (p+us.length):=by
 have e:(vs.take p++us).length=p+us.length:=by simp;omega
 rw [List.take_append,List.take_of_length_le (by omega),e,List.drop_take,List.take_take,Nat.min_eq_left (by omega)]
theorem flat_set{es:List (List AV)}{sz k off:Nat}{e new:List AV}(hs:∀ e∈es,e.length=sz)(hk:es[k]?=some e)(ho:off+new.length≤sz):(es.set k (putAt e off new)).flatten=putAt es.flatten (k*sz+off) new:=by
 induction es generalizing k with
 | nil=>simp at hk
 | cons a es ih =>
   have ha:a.length=sz:=hs a (by simp)
   cases k with
   | zero =>
     simp at hk
     subst hk
     simp only [List.set_cons_zero,List.flatten_cons,putAt,Nat.zero_mul,Nat.zero_add]
     rw [List.take_append_of_le_length (by omega),List.drop_append_of_le_length (by omega)]
     simp [List.append_assoc]
   | succ k =>
     have:=ih (fun e he=>hs e (by simp [he])) (by simpa using hk)
     simp only [List.set_cons_succ,List.flatten_cons]
     rw [this]
     unfold putAt
     have e1:(k+1)*sz+off=a.length+(k*sz+off):=by rw [Nat.add_mul,ha];omega
     rw [e1,List.take_length_add_append,show a.length+(k*sz+off)+new.length=a.length+(k*sz+off+new.length) by omega,List.drop_length_add_append]
     simp [List.append_assoc]
theorem OpOK.mk'{o:Oper}{ev:Operand→Value}{base:Nat}{x:AV}{up:Hp}(v:Value)(h:(execOp ev o).run P w = .ok (.value v) w')(hx:Rep w' I' pl' x v)
  (hs:HR w' I' pl' (up++hp)∧Stp w I pl hp w' I' pl' (up++hp)) (hb:∀ b,(b<base∨base+64≤b)→pl' b=pl b):OpOK P o ev w I pl hp base x up :=
 ⟨_,v,w',I',pl',h,.inl rfl,hx,hs.2,hs.1,hb⟩
theorem upd_out{pl:Plan}{base:Nat}{x:Pl}:∀ b,(b<base∨base+64≤b)→upd pl base x b=pl b:=fun b hb=>upd_ne x (by omega)
theorem newVar_ok(hr:HR w I pl hp){base:Nat}(hb:pl base=none){cs:List AV}{v:Value}{us:List Value}(T:Nat)(hv:v.cells=us.toArray)(ho:Ones us)(hc:RepL w I pl cs us) :
  (newVar T v).run P w = .ok ⟨w.heap.size,0,none⟩ (w.alloc (.cells us.toArray T)) ∧
  Rep (w.alloc (.cells us.toArray T)) I (upd pl base (.blk w.heap.size 0 0)) (.ptr base 0) (.pointer (some ⟨w.heap.size,0,none⟩)) ∧
  (HR (w.alloc (.cells us.toArray T)) I (upd pl base (.blk w.heap.size 0 0)) ((base,.var T cs)::hp)∧Stp w I pl hp (w.alloc (.cells us.toArray T)) I (upd pl base (.blk w.heap.size 0 0)) ((base,.var T cs)::hp)):=by
 refine⟨by simp [newVar,newRow,hv],by simp only [Rep];exact⟨_,_,_,upd_self _ _ _,rfl⟩,?_⟩
 refine hr.new hb _ 0 0 ?_
 refine⟨w.heap.size,0,0,us,upd_self _ _ _,heap_alloc_new _ _,ho,?_⟩
 exact RepL.mono ⟨fun g hg=>heap_alloc_old w _ g (hr.imm g hg)⟩ (fun _ h=>h) (upd_le _ hb) cs hc
theorem store_ok(hG:GOK G P)(hr:HR w I pl hp){T:Nat}{a x:AV}{av xv:Value}(ha:Rep w I pl a av)(hx:Rep w I pl x xv){up:Hp}(h:storeD G hp T a x=some up) :
  ∃ w',(Instr.storeAt T av xv).run P w = .ok () w'∧HR w' I pl (up++hp)∧Stp w I pl hp w' I pl (up++hp):=by
 unfold storeD at h
 split at h
 ·rename_i i new hT hnew
  have hty:=hG.ty _ _ hT
  obtain⟨us,hv,ho,hc⟩:=rep_cells hx hnew
  split at h
  ·rename_i hlen
   have hl2:=repL_length hc
   have run:∀(g off:Nat)(T':Nat)(vs:List Value),w.heap[g]?=some (.cells vs.toArray T' (0,0))→off+us.length≤vs.length →
     (Instr.storeAt T (.pointer (some ⟨g,off,none⟩)) xv).run P w = .ok () (w.setRow g (vs.take off++us++vs.drop (off+us.length)).toArray):=by
    intro g off T' vs hg hle
    have hk:=run_storeCells_at (P:=P) g off T' us 0 vs.toArray w hg (by simpa using hle) ho
    simp only [Nat.add_zero] at hk
    have hne:¬ (us.length≠i.size):=by omega
    simp [Instr.storeAt,Instr.sureAddr,storeVar,run_size hty,hv,hne,hk]
   split at h
   ·rename_i b off
    split at h
    ·rename_i T' cs hb
     split at h
     ·rename_i hle
      injection h with h
      subst h
      obtain⟨g,sz,cap,vs,h1,h2,h3,h4⟩:=hr.obj _ _ hb
      simp only [Rep] at ha
      obtain⟨g',sz',cap',h1',rfl⟩:=ha
      rw [h1] at h1'
      injection h1' with h1'
      injection h1' with e1 e2 e3
      subst e1
      have hl3:=repL_length h4
      refine⟨_,run g off T' vs h2 (by omega),?_⟩
      exact hr.set (o := .var T' cs) hb rfl h1 (by simp) (fun k hk=>setRow_other w g k _ hk) rfl rfl rfl (fun hk=>⟨g,sz,cap,_,h1,setRow_heap w g _ _ _ _ h2,ones_put h3 ho _ _,rep_put (RepL.mono hk (fun _ h=>h) (Plan.le_refl _) cs h4) (RepL.mono hk (fun _ h=>h) (Plan.le_refl _) new hc) off⟩)
     ·cases h
    ·cases h
   ·rename_i b k off
    split at h
    ·rename_i T' sz0 es hb
     split at h
     ·rename_i e hk
      split at h
      ·rename_i hle
       injection h with h
       subst h
       simp only [Rep] at ha
       obtain⟨g',sz',cap',h1',rfl⟩:=ha
       rcases hr.obj _ _ hb with ⟨h0,rfl⟩|⟨g,cap,vs,h1,h2,h3,h4,h5,h6,h7,h8⟩
       ·simp at hk
       rw [h1] at h1'
       injection h1' with h1'
       injection h1' with e1 e2 e3
       subst e1 e2
       have he:=h6 e (List.mem_of_getElem? hk)
       have hklt:k<es.length:=(List.getElem?_eq_some_iff.1 hk).1
       have hmul:(k+1)*sz0≤es.length*sz0:=Nat.mul_le_mul_right _ hklt
       rw [Nat.add_mul,Nat.one_mul] at hmul
       have hcapm:es.length*sz0≤cap*sz0:=Nat.mul_le_mul_right _ h3
       refine⟨_,run g (k*sz0+off) T' vs h2 (by omega),?_⟩
       refine hr.set (o := .arr T' sz0 es) hb rfl h1 (by simp) (fun j hj=>setRow_other w g j _ hj) rfl rfl rfl (fun hkk => .inr ⟨g,cap,_,h1,setRow_heap w g _ _ _ _ h2,by simpa using h3,h4,?_,?_,?_,?_⟩)
       ·simp only [List.length_append,List.length_take,List.length_drop]
        omega
       ·intro e' he'
        rcases List.mem_or_eq_of_mem_set he' with h|h
        ·exact h6 _ h
        ·subst h
         simp only [putAt,List.length_append,List.length_take,List.length_drop]
         omega
       ·have e:=take_splice vs us (k*sz0+off) (es.length*sz0) (by omega) (by omega)
        rw [List.length_set,e]
        exact ones_put h7 ho _ _
       ·have e:=take_splice vs us (k*sz0+off) (es.length*sz0) (by omega) (by omega)
        rw [List.length_set,e,flat_set h6 hk (by omega)]
        exact rep_put (RepL.mono hkk (fun _ h=>h) (Plan.le_refl _) _ h8) (RepL.mono hkk (fun _ h=>h) (Plan.le_refl _) new hc) _
      ·cases h
     ·cases h
    ·cases h
   ·cases h
  ·cases h
 ·cases h
end
section
variable {G : Gl} {P : Program} {w w' : World} {I I' : Nat → Prop} {pl pl' : Plan} {hp : Hp}
theorem HR.add(hr:HR w I pl hp){base:Nat}(hb:pl base=none){o:Obj'}{x:Pl}(hs:w.heap.size≤w'.heap.size)(hk':∀ k,k<w.heap.size→w'.heap[k]?=w.heap[k]?)(hos:w'.os=w.os)(htp:w'.tape=w.tape)(hou:w'.output=w.output)
  (hx:∀ g sz cap,x = .blk g sz cap→w.heap.size≤g∧g<w'.heap.size) (ho:ObjRep w' I (upd pl base x) base o) :
  HR w' I (upd pl base x) ((base,o)::hp)∧Stp w I pl hp w' I (upd pl base x) ((base,o)::hp):=by
 have hle:=upd_le (pl:=pl) (b:=base) x hb
 have hk:Keeps I w w':=⟨fun g hg=>hk' g (hr.imm g hg)⟩
 have own:∀ g,Own ((base,o)::hp) (upd pl base x) g→Own hp pl g∨(w.heap.size≤g∧g<w'.heap.size):=by
  rintro g ⟨b,o',sz',cap',h1,h2,h3⟩
  by_cases e:b=base
  ·subst e
   rw [upd_self] at h3
   injection h3 with h3
   exact .inr (hx g _ _ h3)
  ·rw [upd_ne _ e] at h3
   rw [look_cons_ne _ _ e] at h1
   exact .inl ⟨b,o',sz',cap',h1,h2,h3⟩
 refine⟨⟨?_,?_,fun g hg=>Nat.lt_of_lt_of_le (hr.imm g hg) hs,?_,?_,GV.mono hk (fun _ h=>h) hr.gv⟩,⟨hs,fun k hk2 _=>hk' k hk2,fun _ h=>h,hle,fun g hg=>(own g hg).imp id (·.1),fun _ h => .inl h,hos,htp,hou⟩⟩
 ·intro b o' h
  by_cases e:b=base
  ·subst e
   rw [look_cons_self] at h
   injection h with h
   subst h
   exact ho
  ·rw [look_cons_ne _ _ e] at h
   by_cases hl:o'.live=true
   ·exact(hr.obj b o' h).move (fun g sz' cap' hg=>hk' g (hr.low g ⟨b,o',sz',cap',h,hl,hg⟩)) hk (fun _ h=>h) hle
   ·cases o'<;>simp [Obj'.live] at hl
    trivial
 ·intro b b' o1 o2 g sz1 cap1 sz2 cap2 h1 h2 l1 l2 p1 p2
  by_cases e:b=base<;>by_cases e':b'=base
  ·rw [e,e']
  ·subst e
   rw [upd_self] at p1
   rw [upd_ne _ e'] at p2
   rw [look_cons_ne _ _ e'] at h2
   injection p1 with p1
   have:=hr.low g ⟨b',o2,sz2,cap2,h2,l2,p2⟩
   have:=hx g _ _ p1
   omega
  ·subst e'
   rw [upd_self] at p2
   rw [upd_ne _ e] at p1
   rw [look_cons_ne _ _ e] at h1
   injection p2 with p2
   have:=hr.low g ⟨b,o1,sz1,cap1,h1,l1,p1⟩
   have:=hx g _ _ p2
   omega
  ·rw [upd_ne _ e] at p1
   rw [upd_ne _ e'] at p2
   rw [look_cons_ne _ _ e] at h1
   rw [look_cons_ne _ _ e'] at h2
   exact hr.inj b b' o1 o2 g sz1 cap1 sz2 cap2 h1 h2 l1 l2 p1 p2
 ·intro g hg hI
  rcases own g hg with h|h
  ·exact hr.dis g h hI
  ·have:=hr.imm g hI
   omega
 ·intro g hg
  rcases own g hg with h|h
  ·exact Nat.lt_of_lt_of_le (hr.low g h) hs
  ·exact h.2
theorem HR.over(hr:HR w I pl hp){base b:Nat}(hb:pl base=none){o0 o:Obj'}(hlb:look b hp=some o0)(hl0:o0.live=true){y:Pl}(hpb:pl b=some y){x:Pl}(hs:w.heap.size≤w'.heap.size)
  (hk':∀ k,k<w.heap.size→(∀ sz cap,y ≠ .blk k sz cap)→w'.heap[k]?=w.heap[k]?) (hos:w'.os=w.os) (htp:w'.tape=w.tape) (hou:w'.output=w.output)
  (hx:∀ g sz cap,x = .blk g sz cap→g<w'.heap.size∧((∃ sz' cap',y = .blk g sz' cap')∨w.heap.size≤g)) (ho:Keeps I w w'→ObjRep w' I (upd pl base x) base o) :
  HR w' I (upd pl base x) ((base,o)::(b,.dead)::hp)∧Stp w I pl hp w' I (upd pl base x) ((base,o)::(b,.dead)::hp):=by
 have hne:b≠base:=fun e=>by rw [e,hb] at hpb;cases hpb
 have hle:=upd_le (pl:=pl) (b:=base) x hb
 have hy:∀ g sz cap,y = .blk g sz cap→Own hp pl g:=fun g sz cap e=>⟨b,o0,sz,cap,hlb,hl0,by rw [hpb,e]⟩
 have hk:Keeps I w w':=⟨fun g hg=>hk' g (hr.imm g hg) (fun sz cap e=>hr.dis g (hy g sz cap e) hg)⟩
 have old:∀{c:Nat}{o':Obj'},c≠base→look c ((base,o)::(b,.dead)::hp)=some o'→o'.live=true→look c hp=some o'∧c≠b:=by
  intro c o' hc h hl
  rw [look_cons_ne _ _ hc] at h
  by_cases e:c=b
  ·subst e
   rw [look_cons_self] at h
   injection h with h
   subst h
   cases hl
  ·rw [look_cons_ne _ _ e] at h
   exact⟨h,e⟩
 have own:∀ g,Own ((base,o)::(b,.dead)::hp) (upd pl base x) g→g<w'.heap.size∧(Own hp pl g∨w.heap.size≤g):=by
  rintro g ⟨c,o',sz',cap',h1,h2,h3⟩
  by_cases e:c=base
  ·subst e
   rw [upd_self] at h3
   injection h3 with h3
   obtain⟨k1,k2⟩:=hx g _ _ h3
   refine⟨k1,?_⟩
   rcases k2 with ⟨sz2,cap2,k2⟩|k2
   ·exact .inl (hy g _ _ k2)
   ·exact .inr k2
  ·rw [upd_ne _ e] at h3
   obtain⟨k1,_⟩:=old e h1 h2
   have ho:Own hp pl g:=⟨c,o',sz',cap',k1,h2,h3⟩
   exact⟨Nat.lt_of_lt_of_le (hr.low g ho) hs,.inl ho⟩
 refine⟨⟨?_,?_,fun g hg=>Nat.lt_of_lt_of_le (hr.imm g hg) hs,?_,fun g hg=>(own g hg).1,GV.mono hk (fun _ h=>h) hr.gv⟩,⟨hs,?_,fun _ h=>h,hle,fun g hg=>(own g hg).2,fun _ h => .inl h,hos,htp,hou⟩⟩
 ·intro c o' h
  by_cases e:c=base
  ·subst e
   rw [look_cons_self] at h
   injection h with h
   subst h
   exact ho hk
  ·by_cases hl:o'.live=true
   ·obtain⟨h1,h2⟩:=old e h hl
    refine(hr.obj c o' h1).move (fun g sz' cap' hg=>hk' g (hr.low g ⟨c,o',sz',cap',h1,hl,hg⟩) (fun sz2 cap2 ey=>h2 ?_)) hk (fun _ h=>h) hle
    exact hr.inj c b o' o0 g sz' cap' sz2 cap2 h1 hlb hl hl0 hg (by rw [hpb,ey])
   ·cases o'<;>simp [Obj'.live] at hl
    trivial
 ·intro c c' o1 o2 g sz1 cap1 sz2 cap2 h1 h2 l1 l2 p1 p2
  have clash:∀{c:Nat}{o1:Obj'}{sz1 cap1:Nat},c≠base→look c ((base,o)::(b,.dead)::hp)=some o1→o1.live=true→upd pl base x c=some (.blk g sz1 cap1)→∀{sz2 cap2:Nat},x = .blk g sz2 cap2→False:=by
   intro c o1 sz1 cap1 e h l p sz2 cap2 ex
   obtain⟨k1,k2⟩:=old e h l
   rw [upd_ne _ e] at p
   obtain⟨_,m|m⟩:=hx g _ _ ex
   ·obtain⟨sz3,cap3,m⟩:=m
    exact k2 (hr.inj c b o1 o0 g sz1 cap1 sz3 cap3 k1 hlb l hl0 p (by rw [hpb,m]))
   ·have:=hr.low g ⟨c,o1,sz1,cap1,k1,l,p⟩
    omega
  by_cases e:c=base<;>by_cases e':c'=base
  ·rw [e,e']
  ·subst e
   rw [upd_self] at p1
   injection p1 with p1
   exact(clash e' h2 l2 p2 p1).elim
  ·subst e'
   rw [upd_self] at p2
   injection p2 with p2
   exact(clash e h1 l1 p1 p2).elim
  ·obtain⟨k1,_⟩:=old e h1 l1
   obtain⟨k2,_⟩:=old e' h2 l2
   rw [upd_ne _ e] at p1
   rw [upd_ne _ e'] at p2
   exact hr.inj c c' o1 o2 g sz1 cap1 sz2 cap2 k1 k2 l1 l2 p1 p2
 ·intro g hg hI
  rcases(own g hg).2 with h|h
  ·exact hr.dis g h hI
  ·have:=hr.imm g hI
   omega
 ·intro k hk2 hn
  exact hk' k hk2 (fun sz cap e=>hn (hy k sz cap e))
theorem elems_ok(hr:HR w I pl hp){want:Nat}{x:AV}{v:Value}(hx:Rep w I pl x v){new:List (List AV)}(h:elemsOf hp want x=some new) :
  ∃ a c,∃ us:List Value,v = .slice a new.length c∧new.length≤c∧RepL w I pl new.flatten us∧Ones us∧us.length=new.length*want∧(∀ e∈new,e.length=want) ∧
   (new=[]∨∃ ad,a=some ad∧∀ j u,us[j]?=some u→w.cell? (ad.add j)=some u):=by
 unfold elemsOf at h
 split at h
 ·injection h with h
  subst h
  simp only [Rep] at hx
  subst hx
  exact⟨none,0,[],rfl,Nat.le_refl _,by simp [RepL],by simp [Ones],by simp,by simp,.inl rfl⟩
 ·rename_i sz es
  split at h
  ·rename_i hsz
   have hsz':=Nat.eq_of_beq_eq_true hsz
   subst hsz'
   injection h with h
   subst h
   simp only [Rep] at hx
   obtain⟨a,n,c,rfl,rfl,h3,h4,h5⟩:=hx
   rcases h5 with rfl|⟨g,off,rfl,hg,hE⟩
   ·exact⟨a,c,[],rfl,by simp,by simp [RepL],by simp [Ones],by simp,by simp,.inl rfl⟩
   ·obtain⟨k1,k2⟩:=repE_list hE
    obtain⟨vs,m1,m2,m3,m4⟩:=repM_list k2
    refine⟨_,c,vs,rfl,h3,RepL.mono (Keeps.refl _ _) (fun _ h=>h) (nopl_le _) _ m4,m3,by rw [m1,flat_len k1],k1,.inr ⟨_,rfl,fun j u hj=>?_⟩⟩
    rw [add_none]
    exact m2 j u hj
  ·cases h
 ·rename_i b off n
  split at h
  ·rename_i T sz es hb
   split at h
   ·rename_i hc
    injection h with h
    have hlen:new.length=n:=by rw [← h];simp;omega
    simp only [Rep] at hx
    rcases hr.obj _ _ hb with ⟨h0,rfl⟩|⟨g,cap,vs,k1,k2,k3,k4,k5,k6,k7,k8⟩
    ·simp at h
     subst h
     simp at hc
     rcases hx with ⟨m1,m2,m3,rfl⟩|⟨g',sz',cap',m1,m2,rfl⟩
     ·exact⟨none,0,[],rfl,Nat.le_refl _,by simp [RepL],by simp [Ones],by simp,by simp,.inl rfl⟩
     ·rw [h0] at m1;cases m1
    ·rcases hx with ⟨m1,m2,m3,rfl⟩|⟨g',sz',cap',m1,m2,rfl⟩
     ·rw [k1] at m1;cases m1
     ·rw [k1] at m1
      injection m1 with m1
      injection m1 with e1 e2 e3
      subst e1 e2 e3
      have hsz:sz=want:=hc.2
      subst hsz
      have hmul:(off+n)*sz≤es.length*sz:=Nat.mul_le_mul_right _ hc.1
      rw [Nat.add_mul] at hmul
      have hcapm:es.length*sz≤cap*sz:=Nat.mul_le_mul_right _ k3
      have flatdrop:∀(k:Nat)(es:List (List AV)),(∀ e∈es,e.length=sz)→(es.drop k).flatten=es.flatten.drop (k*sz):=by
       intro k
       induction k with
       | zero=>intro es _;simp
       | succ k ih =>
         intro es hs
         cases es with
         | nil=>simp
         | cons a es =>
           have ha:a.length=sz:=hs a (by simp)
           rw [List.drop_succ_cons,ih es (fun e he=>hs e (by simp [he])),List.flatten_cons,Nat.add_mul,Nat.one_mul,Nat.add_comm,← ha,List.drop_length_add_append]
      have flattake:∀(k:Nat)(es:List (List AV)),(∀ e∈es,e.length=sz)→(es.take k).flatten=es.flatten.take (k*sz):=by
       intro k
       induction k with
       | zero=>intro es _;simp
       | succ k ih =>
         intro es hs
         cases es with
         | nil=>simp
         | cons a es =>
           have ha:a.length=sz:=hs a (by simp)
           rw [List.take_succ_cons,List.flatten_cons,ih es (fun e he=>hs e (by simp [he])),List.flatten_cons,Nat.add_mul,Nat.one_mul,Nat.add_comm,← ha,List.take_length_add_append]
      have hd:∀ e∈es.drop off,e.length=sz:=fun e he=>k6 e (List.mem_of_mem_drop he)
      have ef:new.flatten=(es.flatten.drop (off*sz)).take (n*sz):=by rw [← h,flattake _ _ hd,flatdrop _ _ k6]
      refine⟨some ⟨g,off*sz,none⟩,cap-off,((vs.take (es.length*sz)).drop (off*sz)).take (n*sz),by rw [hlen],by omega,?_,?_,?_,?_,.inr ⟨_,rfl,?_⟩⟩
      ·rw [ef]
       exact repL_take _ (repL_drop _ k8)
      ·exact fun u hu=>k7 u (List.mem_of_mem_drop (List.mem_of_mem_take hu))
      ·rw [hlen]
       simp only [List.length_take,List.length_drop]
       omega
      ·intro e he
       rw [← h] at he
       exact hd e (List.mem_of_mem_take he)
      ·intro j u hj
       rw [add_none]
       show cellAt w g (off*sz+j)=_
       rw [heap_cell k2]
       rw [List.getElem?_take] at hj
       split at hj
       ·rw [List.getElem?_drop,List.getElem?_take] at hj
        split at hj
        ·exact hj
        ·cases hj
       ·cases hj
   ·cases h
  ·cases h
 ·cases h
end
section
variable {G : Gl} {P : Program} {w w' : World} {I I' : Nat → Prop} {pl pl' : Plan} {hp : Hp}
def Made(w:World)(I:Nat→Prop)(pl:Plan)(hp:Hp)(base:Nat)(x:AV)(up:Hp)(r:Result Value):Prop :=
 ∃ v w' pl',r = .ok v w'∧Rep w' I pl' x v∧HR w' I pl' (up++hp)∧Stp w I pl hp w' I pl' (up++hp)∧∀ b,(b<base∨base+64≤b)→pl' b=pl b
theorem run_append_zero{T e:Nat}{iT:TI}(hT:TyOK P T iT)(hd:iT.desc = .slice e){ie:TI}(he:TyOK P e ie)(U ty:Nat){iU:TI}{e':Nat}(hU:TyOK P U iU)(hdU:iU.desc = .slice e')(bs:Option Addr)(n c:Nat)(hnc:n≤c)(a:Option Addr)(c':Nat) :
  (Builtin.append_ #[T,U] ty #[.slice bs n c,.slice a 0 c']).run P w = .ok (.slice bs n c) w:=by
 cases a<;>cases bs<;>simp [Builtin.append_,run_und hT,hd,run_und hU,hdU,run_size he,Builtin.lenOf,Builtin.firstCells,loadCells,loadCellsFrom,hnc,storeCells]
theorem own_obj{g T sz cap:Nat}{vs:List Value}{n:Nat}(h2:w.heap[g]?=some (.cells vs.toArray T (0,0)))(h3:n≤cap)(h4:cap≤maxLen)(h5:vs.length=cap*sz) :
  w.ownsRow 0 T sz (.slice (some ⟨g,0,none⟩) n cap) n (vs.take (n*sz)):=by
 refine⟨?_,.inr ⟨g,cap,vs.toArray,rfl,Nat.zero_le _,h2,h3,h4,by simpa using h5,rfl⟩⟩
 have:=Nat.mul_le_mul_right sz h3
 simp only [List.length_take]
 omega
theorem most_le{n m b:Nat}(h:n+m≤most)(hb:b≤1000):(n+m)*b≤140737488355328∧n+m≤maxLen:=by
 unfold most at h
 have:(n+m)*b≤1000000000*1000:=Nat.mul_le_mul h hb
 unfold maxLen
 omega
theorem own_row{e sz N:Nat}{v:Value}{xs:List Value}{es:List (List AV)}(hown:w.ownsRow 0 e sz v N xs)(hl:es.length=N)(hel:∀ c∈es,c.length=sz)(ho:Ones xs) :
  ∃ x:Pl,(∀(p:Plan) base,p base=some x→Rep w I p (.row base 0 N) v)∧(∀(p:Plan) base,p base=some x→RepL w I p es.flatten xs→ObjRep w I p base (.arr e sz es))∧∀ g sz' cap,x = .blk g sz' cap→v.ownBlock=some g∧g<w.heap.size:=by
 subst hl
 rcases hown.2 with ⟨rfl,h0⟩|⟨g,cap,cur,rfl,_,h2,h3,h4,h5,h6⟩
 ·refine⟨.empty,?_,?_,by simp⟩
  ·intro p base hp
   simp [Rep,hp,h0]
  ·intro p base hp _
   exact .inl ⟨hp,List.eq_nil_of_length_eq_zero h0⟩
 ·refine⟨.blk g sz cap,?_,?_,?_⟩
  ·intro p base hp
   simp only [Rep]
   exact .inr ⟨g,sz,cap,hp,by omega,by simp⟩
  ·intro p base hp hr
   refine .inr ⟨g,cap,cur.toList,hp,by simpa using h2,h3,h4,by simpa using h5,hel,?_,?_⟩
   ·rw [h6];exact ho
   ·rw [h6];exact hr
  ·intro g' sz' cap' e
   injection e with e1 e2 e3
   subst e1
   exact⟨rfl,(Array.getElem?_eq_some_iff.1 h2).1⟩
theorem append_ok(hG:GOK G P)(hr:HR w I pl hp){base:Nat}(hb:pl base=none){T ty:Nat}{s x:AV}{sv xv:Value}(hs:Rep w I pl s sv)(hx:Rep w I pl x xv){y:AV}{up:Hp}(h:appendD G base hp T s x=some (y,up)) :
  Made w I pl hp base y up ((Builtin.append_ #[T,T] ty #[sv,xv]).run P w):=by
 unfold appendD at h
 split at h
 ·rename_i _ e size bytes z hT
  have hty:=hG.ty _ _ hT
  split at h
  ·rename_i ie new he hn
   have hte:=hG.ty _ _ he
   simp only [he,Option.bind_some] at hn
   obtain⟨inf,z0,i1,i2,i3,i4,i5,hzs,_⟩:=hte.info
   obtain⟨a,c,us,rfl,hc,hus,hones,hul,hel,hcells⟩:=elems_ok hr hx hn
   split at h
   ·rename_i hcond
    simp only [Bool.and_eq_true,decide_eq_true_eq] at hcond
    obtain⟨⟨hs0,hb0⟩,hb1⟩:=hcond
    have main:∀(v:Value)(n:Nat)(xs:List Value),w.ownsRow 0 e ie.size v n xs→n+new.length≤most →
      ∃ v' w',(Builtin.append_ #[T,T] ty #[v,.slice a new.length c]).run P w = .ok v' w'∧w'.ownsRow 0 e ie.size v' (n+new.length) (xs++us)∧w.grownBy w' v.ownBlock∧(v'.ownBlock=v.ownBlock∨v'.ownBlock=some w.heap.size):=by
     intro v n xs hown hm
     rcases hcells with rfl|⟨ad,rfl,hcells⟩
     ·have hus0:us=[]:=List.eq_nil_of_length_eq_zero (by simpa using hul)
      subst hus0
      obtain⟨av,cv,rfl,hnc⟩:∃ av cv,v = .slice av n cv∧n≤cv:=by
       rcases hown.2 with ⟨rfl,rfl⟩|⟨g,cap,cur,rfl,_,_,h3,_⟩
       ·exact⟨none,0,rfl,Nat.le_refl _⟩
       ·exact⟨_,cap,rfl,h3⟩
      refine⟨_,w,run_append_zero hty rfl hte T ty hty rfl av n cv hnc a c,by simpa using hown,⟨rfl,rfl,rfl,Nat.le_refl _,fun _ _ _=>rfl⟩,.inl rfl⟩
     ·obtain⟨v',w',k1,k2,k3,_,k5⟩:=run_append_own_at (P:=P) w 0 T ty e inf z0 ie.size ie.bytes hty.und i1 i4 i2 i3 hzs hs0 v n xs hown ad new.length c us hul hcells hones (most_le hm hb1).2 (most_le hm hb1).1 (Nat.zero_le _)
      exact⟨v',w',k1,k2,k3,k5⟩
    split at h
    ·split at h
     ·rename_i hm
      injection h with h
      injection h with h1 h2
      subst h1 h2
      simp only [Rep] at hs
      subst hs
      obtain⟨v',w',k1,k2,k3,k4⟩:=main (.slice none 0 0) 0 [] (World.ownsRow_nil w 0 e ie.size) (by simpa using hm)
      have hkeep:∀ k,k<w.heap.size→w'.heap[k]?=w.heap[k]?:=fun k hk=>k3.block k hk (by simp [Value.ownBlock])
      have hkI:Keeps I w w':=⟨fun g hg=>hkeep g (hr.imm g hg)⟩
      obtain⟨x',m1,m2,m3⟩:=own_row (I:=I) (es:=new) k2 (by simp) hel (by simpa using hones)
      have hadd:=hr.add (w':=w') hb (x:=x') (o := .arr e ie.size new) k3.size hkeep k3.os k3.tape k3.output (fun g sz cap e=>by
       obtain⟨n1,n2⟩:=m3 g sz cap e
       rcases k4 with k4|k4
       ·rw [n1] at k4;cases k4
       ·rw [n1] at k4
        injection k4 with k4
        omega) (m2 _ _ (upd_self _ _ _) (by simpa using RepL.mono hkI (fun _ h=>h) (upd_le x' hb) _ hus))
      refine⟨v',w',upd pl base x',k1,?_,hadd.1,hadd.2,upd_out⟩
      have:=m1 (upd pl base x') base (upd_self _ _ _)
      simpa using this
     ·cases h
    ·rename_i b n
     split at h
     ·rename_i e' sz es hlb
      split at h
      ·rename_i hc2
       injection h with h
       injection h with h1 h2
       subst h1 h2
       obtain⟨rfl,rfl,rfl,hm⟩:=hc2
       have hob:=hr.obj _ _ hlb
       simp only [Rep] at hs
       have core:∀(y:Pl)(xs:List Value),pl b=some y→w.ownsRow 0 e' ie.size sv es.length xs→RepL w I pl es.flatten xs→Ones xs→(∀ e∈es,e.length=ie.size)→(∀ k,sv.ownBlock=some k→∃ sz cap,y = .blk k sz cap) →
         Made w I pl hp base (.row base 0 (es.length+new.length)) [(base,.arr e' ie.size (es++new)),(b,.dead)] ((Builtin.append_ #[T,T] ty #[sv,.slice a new.length c]).run P w):=by
        intro y xs hy hown hxs hox hes hoy
        obtain⟨v',w',k1,k2,k3,k4⟩:=main sv es.length xs hown hm
        have hkeep:∀ k,k<w.heap.size→(∀ sz cap,y ≠ .blk k sz cap)→w'.heap[k]?=w.heap[k]?:=fun k hk hn=>k3.block k hk (fun e=>by
         obtain⟨sz,cap,e2⟩:=hoy k e.symm
         exact hn sz cap e2)
        obtain⟨x',m1,m2,m3⟩:=own_row (I:=I) (es:=es++new) k2 (by simp) (by
         intro e he
         rcases List.mem_append.1 he with he|he
         ·exact hes e he
         ·exact hel e he) (by
         intro u hu
         rcases List.mem_append.1 hu with hu|hu
         ·exact hox u hu
         ·exact hones u hu)
        have hov:=hr.over (w':=w') hb hlb rfl hy (x:=x') (o := .arr e' ie.size (es++new)) k3.size hkeep k3.os k3.tape k3.output (fun g sz cap e=>by
         obtain⟨n1,n2⟩:=m3 g sz cap e
         refine⟨n2,?_⟩
         rcases k4 with k4|k4
         ·rw [n1] at k4
          exact .inl (hoy g k4.symm)
         ·rw [n1] at k4
          injection k4 with k4
          exact .inr (by omega)) (fun hkI=>m2 _ _ (upd_self _ _ _) (by
           rw [List.flatten_append]
           exact repL_append (RepL.mono hkI (fun _ h=>h) (upd_le x' hb) _ hxs) (RepL.mono hkI (fun _ h=>h) (upd_le x' hb) _ hus)))
        exact⟨v',w',upd pl base x',k1,m1 _ _ (upd_self _ _ _),hov.1,hov.2,upd_out⟩
       rcases hob with ⟨h0,rfl⟩|⟨g,cap,vs,q1,q2,q3,q4,q5,q6,q7,q8⟩
       ·rcases hs with ⟨m1,m2,m3,hsv⟩|⟨g',sz',cap',m1,m2,hsv⟩
        ·exact core .empty [] h0 (by rw [hsv];exact World.ownsRow_nil w 0 e' ie.size) (by simp [RepL]) (by simp [Ones]) (by simp) (by rw [hsv];simp [Value.ownBlock])
        ·rw [h0] at m1;cases m1
       ·rcases hs with ⟨m1,m2,m3,hsv⟩|⟨g',sz',cap',m1,m2,hsv⟩
        ·rw [q1] at m1;cases m1
        ·rw [q1] at m1
         injection m1 with m1
         injection m1 with e1 e2 e3
         subst e1 e3
         rw [Nat.zero_mul,Nat.sub_zero] at hsv
         refine core (.blk g ie.size cap) _ q1 (by rw [hsv];exact own_obj q2 q3 q4 q5) q8 q7 q6 ?_
         intro k hk
         rw [hsv] at hk
         simp only [Value.ownBlock,Option.some.injEq] at hk
         exact⟨_,_,by rw [hk]⟩
      ·cases h
     ·cases h
    ·cases h
   ·cases h
  ·cases h
 ·cases h
end
section
variable {G : Gl} {P : Program} {w w' : World} {I I' : Nat → Prop} {pl pl' : Plan} {hp : Hp}
theorem flatdrop{sz:Nat}:∀(k:Nat)(es:List (List AV)),(∀ e∈es,e.length=sz)→(es.drop k).flatten=es.flatten.drop (k*sz)
 | 0,es,_=>by simp
 | k+1,[],_=>by simp
 | k+1,a::es,hs=>by
   have ha:a.length=sz:=hs a (by simp)
   rw [List.drop_succ_cons,flatdrop k es (fun e he=>hs e (by simp [he])),List.flatten_cons,Nat.add_mul,Nat.one_mul,Nat.add_comm,← ha,List.drop_length_add_append]
theorem flattake{sz:Nat}:∀(k:Nat)(es:List (List AV)),(∀ e∈es,e.length=sz)→(es.take k).flatten=es.flatten.take (k*sz)
 | 0,es,_=>by simp
 | k+1,[],_=>by simp
 | k+1,a::es,hs=>by
   have ha:a.length=sz:=hs a (by simp)
   rw [List.take_succ_cons,List.flatten_cons,flattake k es (fun e he=>hs e (by simp [he])),List.flatten_cons,Nat.add_mul,Nat.one_mul,Nat.add_comm,← ha,List.take_length_add_append]
theorem Own.congr{hp hp':Hp}(h:∀ c,look c hp'=look c hp){g:Nat}:Own hp' pl g↔Own hp pl g:=by
 unfold Own
 simp only [h]
theorem HR.congr{hp hp':Hp}(h:∀ c,look c hp'=look c hp)(hr:HR w I pl hp):HR w I pl hp' where
 obj:=fun b o hb=>hr.obj b o (by rw [← h];exact hb)
 inj:=fun b b' o o' g sz cap sz' cap' h1 h2=>hr.inj b b' o o' g sz cap sz' cap' (by rw [← h];exact h1) (by rw [← h];exact h2)
 imm:=hr.imm
 dis:=fun g hg=>hr.dis g ((Own.congr h).1 hg)
 low:=fun g hg=>hr.low g ((Own.congr h).1 hg)
 gv:=hr.gv
theorem Stp.congr{hp hp1 hp2:Hp}(h:∀ c,look c hp2=look c hp1)(hs:Stp w I pl hp w' I' pl' hp1):Stp w I pl hp w' I' pl' hp2 :=
 { hs with own:=fun g hg=>hs.own g ((Own.congr h).1 hg) }
theorem look_again{hp:Hp}{b:Nat}{o:Obj'}(h:look b hp=some o)(c:Nat):look c ((b,o)::hp)=look c hp:=by
 rw [look_cons]
 split
 ·rename_i e
  rw [e,h]
 ·rfl
theorem copy_ok(hG:GOK G P)(hr:HR w I pl hp){base:Nat}{T U ty:Nat}{d x:AV}{dv xv:Value}(hd:Rep w I pl d dv)(hx:Rep w I pl x xv){y:AV}{up:Hp}(h:copyD G hp T d x=some (y,up)) :
  Made w I pl hp base y up ((Builtin.copy_ #[T,U] ty #[dv,xv]).run P w):=by
 unfold copyD at h
 split at h
 ·rename_i ie b off n new hie0 hn
  obtain⟨e,iT,hT,hdd,hie⟩:=sliceElem_some hG hie0
  simp only [hie0,Option.bind_some] at hn
  obtain⟨a,c,us,rfl,hc,hus,hones,hul,hel,hcells⟩:=elems_ok hr hx hn
  split at h
  ·rename_i e' sz es hlb
   split at h
   ·rename_i hcc
    injection h with h
    injection h with h1 h2
    subst h1 h2
    obtain⟨hle,rfl⟩:=hcc
    have hrun:∀(bs:Option Addr)(cd:Nat)(w2:World),((match bs with|some ad=>storeCells ad (us.take (min new.length n*ie.size))|none=>pure ()):Sem Unit).run P w = .ok () w2 →
      (Builtin.copy_ #[T,U] ty #[.slice bs n cd,.slice a new.length c]).run P w = .ok (.int .i64 (min new.length n:Nat)) w2:=by
     intro bs cd w2 hw2
     have hfirst:(Builtin.firstCells ie.size (min new.length n) (.slice a new.length c)).run P w = .ok (us.take (min new.length n*ie.size)).toArray w:=by
      rcases hcells with rfl|⟨ad,rfl,hcells⟩
      ·have hus0:us=[]:=List.eq_nil_of_length_eq_zero (by simpa using hul)
       subst hus0
       cases a<;>simp [Builtin.firstCells,loadCells,loadCellsFrom]
      ·refine run_firstCells_some (P:=P) w ie.size (min new.length n) ad new.length c _ ?_ (fun j v hj=>hcells j v ?_)
       ·rw [List.length_take,hul]
        exact Nat.min_eq_left (Nat.mul_le_mul_right _ (Nat.min_le_left _ _))
       ·rw [List.getElem?_take] at hj
        split at hj
        ·exact hj
        ·cases hj
     have e1:Nat.min new.length n=min new.length n:=rfl
     cases bs with
     | none =>
       simp at hw2
       subst hw2
       simp [Builtin.copy_,run_und hT,hdd,Builtin.lenOf,run_size hie,e1,hfirst,goInt]
     | some ad =>
       simp only at hw2
       simp [Builtin.copy_,run_und hT,hdd,Builtin.lenOf,run_size hie,e1,hfirst,hw2,goInt]
    simp only [Rep] at hd
    rcases hr.obj _ _ hlb with ⟨h0,rfl⟩|⟨g,cap,vs,q1,q2,q3,q4,q5,q6,q7,q8⟩
    ·simp at hle
     obtain⟨rfl,rfl⟩:=hle
     rcases hd with ⟨m1,m2,m3,hdv⟩|⟨g',sz',cap',m1,m2,hdv⟩
     ·subst hdv
      refine⟨_,w,pl,hrun none 0 w (by simp),by simp [Rep],?_,?_,fun _ _=>rfl⟩
      ·exact hr.congr (look_again (by simpa using hlb))
      ·exact(Stp.refl w I pl hp).congr (look_again (by simpa using hlb))
     ·rw [h0] at m1;cases m1
    ·rcases hd with ⟨m1,m2,m3,hdv⟩|⟨g',sz',cap',m1,m2,hdv⟩
     ·rw [q1] at m1;cases m1
     rw [q1] at m1
     injection m1 with m1
     injection m1 with e1 e2 e3
     subst e1 e2 e3
     subst hdv
     have hk1:min new.length n≤n:=Nat.min_le_right _ _
     have hk2:min new.length n≤new.length:=Nat.min_le_left _ _
     have hlk:(us.take (min new.length n*ie.size)).length=min new.length n*ie.size:=by
      rw [List.length_take,hul]
      exact Nat.min_eq_left (Nat.mul_le_mul_right _ hk2)
     have hmul:(off+min new.length n)*ie.size≤es.length*ie.size:=Nat.mul_le_mul_right _ (by omega)
     rw [Nat.add_mul] at hmul
     have hcapm:es.length*ie.size≤cap*ie.size:=Nat.mul_le_mul_right _ q3
     have hst:=run_storeCells_at (P:=P) g (off*ie.size) e' (us.take (min new.length n*ie.size)) 0 vs.toArray w q2 (by rw [hlk];simp;omega) (fun u hu=>hones u (List.mem_of_mem_take hu))
     simp only [Nat.add_zero] at hst
     have hset:=hr.set (o := .arr e' ie.size es) (o' := .arr e' ie.size (es.take off++new.take n++es.drop (off+min new.length n))) hlb rfl q1 (w':=w.setRow g (vs.toArray.toList.take (off*ie.size)++us.take (min new.length n*ie.size)++vs.toArray.toList.drop (off*ie.size+(us.take (min new.length n*ie.size)).length)).toArray) (by simp) (fun j hj=>setRow_other w g j _ hj) rfl rfl rfl (fun hkk=>by
      have ht:new.take n=new.take (min new.length n):=by
       rw [Nat.min_comm]
       by_cases hh:n≤new.length
       ·rw [Nat.min_eq_left hh]
       ·rw [Nat.min_eq_right (by omega),List.take_of_length_le (by omega),List.take_of_length_le (by omega)]
      have hlen:(es.take off++new.take n++es.drop (off+min new.length n)).length=es.length:=by
       rw [ht];simp;omega
      have esp:=take_splice vs (us.take (min new.length n*ie.size)) (off*ie.size) (es.length*ie.size) (by rw [hlk];omega) (by omega)
      refine .inr ⟨g,cap,_,q1,setRow_heap w g _ _ _ _ q2,by rw [hlen];exact q3,q4,?_,?_,?_,?_⟩
      ·simp only [List.length_append,List.length_take,List.length_drop,hlk]
       simp only [List.length_take] at hlk
       omega
      ·intro x hx
       rcases List.mem_append.1 hx with hx|hx
       ·rcases List.mem_append.1 hx with hx|hx
        ·exact q6 x (List.mem_of_mem_take hx)
        ·exact hel x (List.mem_of_mem_take hx)
       ·exact q6 x (List.mem_of_mem_drop hx)
      ·rw [hlen,esp]
       exact ones_put q7 (fun u hu=>hones u (List.mem_of_mem_take hu)) _ _
      ·rw [hlen,esp,List.flatten_append,List.flatten_append,flattake _ _ q6,flatdrop _ _ q6,ht,flattake _ _ hel]
       refine repL_append (repL_append (repL_take _ (RepL.mono hkk (fun _ h=>h) (Plan.le_refl _) _ q8)) (repL_take _ (RepL.mono hkk (fun _ h=>h) (Plan.le_refl _) _ hus))) ?_
       rw [show (off+min new.length n)*ie.size=off*ie.size+(us.take (min new.length n*ie.size)).length by rw [hlk,Nat.add_mul]]
       exact repL_drop _ (RepL.mono hkk (fun _ h=>h) (Plan.le_refl _) _ q8))
     exact⟨_,_,pl,hrun _ _ _ hst,by simp [Rep],hset.1,hset.2,fun _ _=>rfl⟩
   ·cases h
  ·cases h
 ·cases h
theorem list_made(zs:List Value):∀ n,((List.range (n*zs.length)).map fun i=>zs.toArray[i%zs.toArray.size]!)=(List.replicate n zs).flatten
 | 0=>by simp
 | n+1=>by
   have ih:=list_made zs n
   rw [Nat.add_mul,Nat.one_mul,Nat.add_comm,List.range_add,List.map_append,List.map_map,List.replicate_succ,List.flatten_cons]
   congr 1
   ·apply List.ext_getElem?
    intro i
    by_cases hi:i<zs.length
    ·simp [hi,Nat.mod_eq_of_lt hi]
    ·simp [hi]
   ·rw [← ih]
    apply List.map_congr_left
    intro i _
    simp
theorem made_cells(z:Array Value)(n:Nat)(hz:0<z.size):(madeCells z (n*z.size)).toList=(List.replicate n z.toList).flatten:=by
 rw [← list_made z.toList n]
 simp [madeCells]
theorem repL_replicate{z:List AV}{zs:List Value}(h:RepL w I pl z zs):∀ n,RepL w I pl (List.replicate n z).flatten (List.replicate n zs).flatten
 | 0=>by simp [RepL]
 | n+1=>by
   rw [List.replicate_succ,List.replicate_succ,List.flatten_cons,List.flatten_cons]
   exact repL_append h (repL_replicate h n)
theorem ones_replicate{zs:List Value}(h:Ones zs)(n:Nat):Ones (List.replicate n zs).flatten:=by
 intro u hu
 obtain⟨l,hl,hu⟩:=List.mem_flatten.1 hu
 rw [(List.mem_replicate.1 hl).2] at hu
 exact h u hu
theorem makeSlice_ok(hG:GOK G P)(hr:HR w I pl hp){base:Nat}(hb:pl base=none){T:Nat}{l c:AV}{lv cv:Value}(hl:Rep w I pl l lv)(hc:Rep w I pl c cv){y:AV}{up:Hp}(h:makeSliceD G base T l c=some (y,up)) :
  Made w I pl hp base y up ((Instr.makeSlice T lv cv).run P w):=by
 unfold makeSliceD at h
 split at h
 ·rename_i _ e size bytes z k1 n k2 m hT
  have hty:=hG.ty _ _ hT
  simp only [Rep] at hl hc
  subst hl hc
  split at h
  ·rename_i ie he
   have hte:=hG.ty _ _ he
   split at h
   ·rename_i hcond
    injection h with h
    injection h with h1 h2
    subst h1 h2
    obtain⟨rfl,hn0,hn1,hs0,hz0,hb1⟩:=hcond
    obtain⟨inf,z0,i1,i2,i3,i4,i5,i6,_⟩:=hte.info
    obtain⟨nn,rfl⟩:=Int.eq_ofNat_of_zero_le hn0
    have hnn:nn≤1000000:=by omega
    have hbb:inf.bytes*nn≤1000*1000000:=Nat.mul_le_mul (by omega) hnn
    obtain⟨w',r1,r2,r3⟩:=run_make_full (P:=P) w 0 T e inf z0 ie.size hty.und i1 i4 i2 k1 k2 nn (by omega) (by simp only [maxLen];omega) (Nat.zero_le _)
    have hmc:(madeCells z0.cells (nn*ie.size)).toList=(List.replicate nn z0.cells.toList).flatten:=by
     rw [← i6]
     exact made_cells z0.cells nn (by omega)
    rw [hmc] at r2
    have hz:=repL_ofS (w:=w') (I:=I) (pl:=pl) i5
    have hkeep:∀ k,k<w.heap.size→w'.heap[k]?=w.heap[k]?:=fun k hk=>r3.block k hk (by simp)
    obtain⟨x',m1,m2,m3⟩:=own_row (I:=I) (es:=List.replicate nn ie.zero) r2 (by simp) (by
     intro x hx
     rw [(List.mem_replicate.1 hx).2]
     exact hz0) (ones_replicate hz.2 nn)
    have hadd:=hr.add (w':=w') hb (x:=x') (o := .arr e ie.size (List.replicate nn ie.zero)) r3.size hkeep r3.os r3.tape r3.output (fun g sz cap e=>by
     obtain⟨n1,n2⟩:=m3 g sz cap e
     simp only [Value.ownBlock,Option.some.injEq] at n1
     omega) (m2 _ _ (upd_self _ _ _) (repL_replicate (repL_ofS (w:=w') (I:=I) (pl:=upd pl base x') i5).1 nn))
    refine⟨_,w',upd pl base x',r1,?_,hadd.1,hadd.2,upd_out⟩
    have:=m1 (upd pl base x') base (upd_self _ _ _)
    simpa using this
   ·cases h
  ·cases h
 ·cases h
theorem setAll_fill{sz:Nat}:∀(ps:List (Nat×List AV)){es r:List (List AV)},(∀ e∈es,e.length=sz)→setAll sz es ps=some r→fillD (fun i=>some (i*sz,sz)) es.flatten ps=some r.flatten∧(∀ e∈r,e.length=sz)∧r.length=es.length
 | [],es,r,hs,h=>by
   simp only [setAll] at h
   injection h with h
   subst h
   exact⟨rfl,hs,rfl⟩
 | (i,new)::ps,es,r,hs,h=>by
   unfold setAll at h
   split at h
   ·rename_i hc
    obtain⟨hl,hi⟩:=hc
    have hs':∀ e∈es.set i new,e.length=sz:=by
     intro e he
     rcases List.mem_or_eq_of_mem_set he with he|he
     ·exact hs e he
     ·rw [he,hl]
    obtain⟨k1,k2,k3⟩:=setAll_fill ps hs' h
    refine⟨?_,k2,by rw [k3];simp⟩
    have hk:es[i]?=some es[i]:=List.getElem?_eq_getElem hi
    have hf:=flat_set (off:=0) (new:=new) hs hk (by omega)
    have he:(es[i]).length=sz:=hs _ (List.getElem_mem hi)
    have hput:putAt es[i] 0 new=new:=by
     unfold putAt
     simp
     omega
    rw [hput] at hf
    have hlen:=flat_len hs
    have hmul:(i+1)*sz≤es.length*sz:=Nat.mul_le_mul_right _ hi
    rw [Nat.add_mul] at hmul
    unfold fillD
    simp only
    rw [if_pos ⟨hl,by omega⟩,← Nat.add_zero (i*sz),← hf]
    exact k1
   ·cases h
theorem buildSlice_ok(hG:GOK G P)(hr:HR w I pl hp){base:Nat}(hb:pl base=none){T len:Nat}{ps:List (Nat×List AV)}{pv:List (Nat×Value)}(hps:RepP w I pl ps pv){y:AV}{up:Hp}(h:buildSliceD G base T len ps=some (y,up))(arr:Array (Nat×Value))(ha:arr.toList=pv) :
  Made w I pl hp base y up ((Instr.buildSlice T len arr).run P w):=by
 unfold buildSliceD at h
 split at h
 ·rename_i _ e size bytes z hT
  have hty:=hG.ty _ _ hT
  split at h
  ·rename_i ie he
   have hte:=hG.ty _ _ he
   split at h
   ·rename_i hcond
    simp only [Bool.and_eq_true,decide_eq_true_eq] at hcond
    obtain⟨⟨hs0,hz0⟩,hb1⟩:=hcond
    cases hsa:setAll ie.size (List.replicate len ie.zero) ps with
    | none=>simp [hsa] at h
    | some es =>
      simp [hsa] at h
      obtain⟨h1,h2⟩:=h
      subst h1 h2
      obtain⟨f1,f2,f3⟩:=setAll_fill ps (es:=List.replicate len ie.zero) (by
       intro x hx
       rw [(List.mem_replicate.1 hx).2]
       exact hz0) hsa
      simp only [List.length_replicate] at f3
      obtain⟨inf,z0,i1,i2,i3,i4,i5,i6,_⟩:=hte.info
      have hz:=repL_ofS (w:=w) (I:=I) (pl:=pl) i5
      obtain⟨rs,g1,g2,g3⟩:=fill_ok (fun i=>some (i*ie.size,ie.size)) ps hps (repL_replicate hz.1 len) (ones_replicate hz.2 len) f1
      have hmc:(madeCells z0.cells (len*ie.size)).toList=(List.replicate len z0.cells.toList).flatten:=by
       rw [← i6]
       exact made_cells z0.cells len (by omega)
      have hrun:(Instr.buildSlice T len arr).run P w = .ok (.slice (some ⟨w.heap.size,0,none⟩) len len) (w.alloc (.cells rs.toArray e)):=by
       have hmc':((Array.range (len*inf.size)).map (z0.cells[· % z0.cells.size]!))=((List.replicate len z0.cells.toList).flatten).toArray:=by
        apply Array.ext'
        rw [i2]
        exact hmc
       by_cases hl0:len*inf.size=0
       ·have hl0':len=0:=by
         rcases Nat.mul_eq_zero.1 hl0 with h|h
         ·exact h
         ·omega
        subst hl0'
        simp only [List.replicate_zero,List.flatten_nil] at g1
        have e0:(fun i=>some (i*ie.size,ie.size))=fun i:Nat=>some (i*ie.size,ie.size):=rfl
        have er:Array.range 0=#[]:=rfl
        simp [Instr.buildSlice,run_und hty,run_size hte,ha,newRow,er,g1]
       ·have:=run_buildSlice w T e len arr rs.toArray inf z0 hty.und i1 i4 (by rw [i2];omega) hl0 (by rw [hmc',i2,ha];exact g1)
        exact this
      have hrl:=repL_length g2
      rw [flat_len f2,f3] at hrl
      have hown:=World.ownsRow_lit (base:=0) (e:=e) (size:=ie.size) w rs.toArray len (Nat.zero_le _) (by
       have:=Nat.le_mul_of_pos_right len hs0
       simp only [maxLen]
       omega) (by simpa using hrl)
      simp only at hown
      obtain⟨x',m1,m2,m3⟩:=own_row (I:=I) (es:=es) hown f3 f2 g3
      have hadd:=hr.add (w':=w.alloc (.cells rs.toArray e)) hb (x:=x') (o := .arr e ie.size es) (by simp) (fun k hk=>heap_alloc_old w _ k hk) rfl rfl rfl (fun g sz cap e=>by
       obtain⟨n1,n2⟩:=m3 g sz cap e
       simp only [Value.ownBlock,Option.some.injEq] at n1
       simp
       omega) (m2 _ _ (upd_self _ _ _) (RepL.mono ⟨fun g hg=>heap_alloc_old w _ g (hr.imm g hg)⟩ (fun _ h=>h) (upd_le x' hb) _ g2))
      exact⟨_,_,upd pl base x',hrun,m1 _ _ (upd_self _ _ _),hadd.1,hadd.2,upd_out⟩
   ·cases h
  ·cases h
 ·cases h
end
section
variable {G : Gl} {P : Program} {w w' : World} {I I' : Nat → Prop} {pl pl' : Plan} {hp : Hp}
theorem beq_bytes(a b:ByteArray):(a==b)=(a.data.toList==b.data.toList):=by
 cases a;cases b
 rename_i x y
 show (x==y)=(x.toList==y.toList)
 rw [Bool.eq_iff_iff]
 simp
theorem findNow_ok(t:ByteArray):∀(es:List (List UInt8×AV)){ms:List MapEntry}(i:Nat),RepMap w I pl es ms →
  match mapGet t.data.toList es with
  | some x=>∃ j v,Instr.findNow .string (.string t) ms i=some (some (j,v))∧Rep w I pl x v
  | none=>Instr.findNow .string (.string t) ms i=some none
 | [],ms,i,h=>by
   simp only [RepMap] at h
   subst h
   simp [mapGet,Instr.findNow]
 | (s,x)::r,ms,i,h=>by
   simp only [RepMap] at h
   obtain⟨e,ms',rfl,⟨u,hu,rfl⟩,hx,hr⟩:=h
   have ih:=findNow_ok t r (i+1) hr
   unfold mapGet
   have hs:Instr.sameNow .string (.string t) e.key=some (t.data.toList==u.data.toList):=by
    rw [hu]
    simp only [Instr.sameNow,beq_bytes]
   cases hb:(t.data.toList==u.data.toList)
   ·rw [hb] at hs
    simp only [Bool.false_eq_true,if_false]
    unfold Instr.findNow
    simp only [hs]
    exact ih
   ·rw [hb] at hs
    simp only [if_true]
    unfold Instr.findNow
    simp only [hs]
    exact⟨_,_,rfl,hx⟩
theorem isMapS_some(hG:GOK G P){T:Nat}{i:TI}(h:isMapS G T=some i):∃ k e iT ik,TyOK P T iT∧iT.desc = .map k e∧TyOK P k ik∧ik.desc = .string∧TyOK P e i:=by
 unfold isMapS at h
 split at h
 ·rename_i _ k e size bytes z hT
  split at h
  ·rename_i _ a1 a2 a3 hk
   exact⟨k,e,_,_,hG.ty _ _ hT,rfl,hG.ty _ _ hk,rfl,hG.ty _ _ h⟩
  ·cases h
 ·cases h
theorem run_checkKey{k:Nat}{ik:TI}(hk:TyOK P k ik)(hd:ik.desc = .string)(b:Bool)(t:ByteArray):(Instr.checkKey b 10000 k (.string t)).run P w = .ok () w:=by
 unfold Instr.checkKey
 simp [run_und hk,hd]
theorem lookup_ok(hG:GOK G P)(hr:HR w I pl hp){T b:Nat}{mv kv:Value}{s:List UInt8}(hm:Rep w I pl (.mp b) mv)(hk:Rep w I pl (.str s) kv){ie:TI}(hT:isMapS G T=some ie){es:List (List UInt8×AV)}(hb:look b hp=some (.mapo es))(ok:Bool) :
  match mapGet s es with
  | some x=>∃ v,(Instr.lookup T mv kv ok).run P w = .ok v w∧Rep w I pl (if ok then .tup [x,.bool true] else x) v
  | none=>∀ z,ofCells ie.agg ie.zero=some z→∃ v,(Instr.lookup T mv kv ok).run P w = .ok v w∧Rep w I pl (if ok then .tup [z,.bool false] else z) v:=by
 obtain⟨k,e,iT,ik,h1,h2,h3,h4,h5⟩:=isMapS_some hG hT
 obtain⟨g,sz,cap,ms,clock,q1,q2,q3⟩:=hr.obj _ _ hb
 simp only [Rep] at hm hk
 obtain⟨g',sz',cap',m1,rfl⟩:=hm
 rw [q1] at m1
 injection m1 with m1
 injection m1 with e1 e2 e3
 subst e1
 obtain⟨t,rfl,rfl⟩:=hk
 have hobj:(getObj g).run P w = .ok (.map ms clock) w:=by
  simp [getObj,Sem.run,q2]
 have hf:=findNow_ok (w:=w) (I:=I) (pl:=pl) t es 0 q3
 have hkey:∀ r,Instr.findNow .string (.string t) ms.toList 0=some r→(Instr.findKey k (.string t) ms.toList).run P w = .ok r w:=by
  intro r hr'
  unfold Instr.findKey
  simp [run_und h3,h4,hr']
 cases hg:mapGet t.data.toList es with
 | some x =>
   simp only [hg] at hf ⊢
   obtain⟨j,v,hv,hx⟩:=hf
   cases ok
   ·refine⟨v,?_,by simpa using hx⟩
    simp [Instr.lookup,run_und h1,h2,hobj,run_checkKey h3 h4,hkey _ hv]
   ·refine⟨.tuple #[v,.bool true],?_,?_⟩
    ·simp [Instr.lookup,run_und h1,h2,hobj,run_checkKey h3 h4,hkey _ hv]
    ·simp only [if_true,Rep]
     exact⟨[v,.bool true],rfl,by simp only [RepL,Rep];exact⟨_,_,rfl,hx,_,_,rfl,rfl,rfl⟩⟩
 | none =>
   simp only [hg] at hf ⊢
   intro z hz
   obtain⟨z0,zs,k1,k2,k3,k4,k5,k6⟩:=run_zero h5 w
   have hrep:Rep w I pl z z0:=by
    unfold ofCells at hz
    cases ha:ie.agg
    ·rw [ha] at k6
     simp only [ha,Bool.false_eq_true,if_false] at hz k6
     split at hz
     ·rename_i y hy
      injection hz with hz
      subst hz
      have hr0:=k3 I pl w
      rw [hy] at hr0
      simp only [RepL] at hr0
      obtain⟨v,vs',e1,e2,rfl⟩:=hr0
      rw [k6,e1] at k2
      simp at k2
      rw [k2]
      exact e2
     ·cases hz
    ·rw [ha] at k6
     simp only [ha,if_true,Option.some.injEq] at hz k6
     subst hz
     rw [k6,k2]
     simp only [Rep]
     exact⟨zs,rfl,k4,k3 I pl w⟩
   cases ok
   ·refine⟨z0,?_,by simpa using hrep⟩
    simp [Instr.lookup,run_und h1,h2,hobj,run_checkKey h3 h4,hkey _ hf,k1]
   ·refine⟨.tuple #[z0,.bool false],?_,?_⟩
    ·simp [Instr.lookup,run_und h1,h2,hobj,run_checkKey h3 h4,hkey _ hf,k1]
    ·simp only [if_true,Rep]
     exact⟨[z0,.bool false],rfl,by simp only [RepL,Rep];exact⟨_,_,rfl,hrep,_,_,rfl,rfl,rfl⟩⟩
theorem repMap_snoc{es:List (List UInt8×AV)}{ms:List MapEntry}(h:RepMap w I pl es ms){s:List UInt8}{x:AV}{e:MapEntry}(hk:∃ t,e.key = .string t∧t.data.toList=s)(hx:Rep w I pl x e.val):RepMap w I pl (es++[(s,x)]) (ms++[e]):=by
 induction es generalizing ms with
 | nil =>
   simp only [RepMap] at h
   subst h
   simp only [List.nil_append,RepMap]
   exact⟨e,[],rfl,hk,hx,rfl⟩
 | cons a r ih =>
   obtain⟨s',x'⟩:=a
   simp only [RepMap] at h
   obtain⟨e',ms',rfl,h1,h2,h3⟩:=h
   simp only [List.cons_append,RepMap]
   exact⟨e',ms'++[e],rfl,h1,h2,ih h3⟩
theorem mapUpdate_ok(hG:GOK G P)(hr:HR w I pl hp){T b:Nat}{mv kv xv:Value}{s:List UInt8}{x:AV}(hm:Rep w I pl (.mp b) mv)(hk:Rep w I pl (.str s) kv)(hx:Rep w I pl x xv){ie:TI}(hT:isMapS G T=some ie){es:List (List UInt8×AV)}(hb:look b hp=some (.mapo es))(hn:mapGet s es=none) :
  ∃ w',(Instr.mapUpdate T mv kv xv).run P w = .ok () w'∧HR w' I pl ((b,.mapo (es++[(s,x)]))::hp)∧Stp w I pl hp w' I pl ((b,.mapo (es++[(s,x)]))::hp):=by
 obtain⟨k,e,iT,ik,h1,h2,h3,h4,h5⟩:=isMapS_some hG hT
 obtain⟨g,sz,cap,ms,clock,q1,q2,q3⟩:=hr.obj _ _ hb
 simp only [Rep] at hm hk
 obtain⟨g',sz',cap',m1,rfl⟩:=hm
 rw [q1] at m1
 injection m1 with m1
 injection m1 with e1 e2 e3
 subst e1
 obtain⟨t,rfl,rfl⟩:=hk
 have hobj:(getObj g).run P w = .ok (.map ms clock) w:=by
  simp [getObj,Sem.run,q2]
 have hf:=findNow_ok (w:=w) (I:=I) (pl:=pl) t es 0 q3
 simp only [hn] at hf
 have hkey:(Instr.findKey k (.string t) ms.toList).run P w = .ok none w:=by
  unfold Instr.findKey
  simp [run_und h3,h4,hf]
 have hlt:g<w.heap.size:=(Array.getElem?_eq_some_iff.1 q2).1
 let o':Go.Obj := .map (ms.push { key := .string t,val:=xv,born:=clock }) (clock+1)
 let w2:World:={ w with heap:=w.heap.setIfInBounds g o' }
 have hset:(setObj g o').run P w = .ok () w2:=by
  simp [setObj,Sem.run,q2,w2]
 refine⟨w2,?_,?_⟩
 ·simp [Instr.mapUpdate,run_und h1,h2,hobj,run_checkKey h3 h4,hkey]
  exact hset
 ·refine hr.set (o := .mapo es) hb rfl q1 (by simp [w2]) (fun j hj=>by simp [w2,Array.getElem?_setIfInBounds_ne (Ne.symm hj)]) rfl rfl rfl (fun hkk=>?_)
  refine⟨g,sz,cap,ms.push { key := .string t,val:=xv,born:=clock },clock+1,q1,by simp [w2,hlt,o'],?_⟩
  simp only [Array.toList_push]
  exact repMap_snoc (RepMap.mono hkk (fun _ h=>h) (Plan.le_refl _) es q3) ⟨t,rfl,rfl⟩ (Rep.mono hkk (fun _ h=>h) (Plan.le_refl _) x hx)
end
section
variable {G : Gl} {P : Program} {w w' : World} {I I' : Nat → Prop} {pl pl' : Plan} {hp : Hp}
theorem Made.op{base:Nat}{x:AV}{up:Hp}{s:Sem Value}(h:Made w I pl hp base x up (s.run P w)){o:Oper}{ev:Operand→Value}(he:execOp ev o=(do pure (Next.value (← s)))):OpOK P o ev w I pl hp base x up:=by
 obtain⟨v,w',pl',h1,h2,h3,h4,h5⟩:=h
 exact⟨.value v,v,w',I,pl',by rw [he];simp [h1],.inl rfl,h2,h4,h3,h5⟩
theorem OpOK.pure{base:Nat}{x:AV}(hr:HR w I pl hp){s:Sem Value}(h:∃ v,s.run P w = .ok v w∧Rep w I pl x v){o:Oper}{ev:Operand→Value}(he:execOp ev o=(do pure (Next.value (← s)))):OpOK P o ev w I pl hp base x []:=by
 obtain⟨v,h1,h2⟩:=h
 exact OpOK.same v hr (by rw [he];simp [h1]) h2
theorem args_ok{fr:Fr}{ev:Operand→Value}(hev:∀ x y,opv fr x=some y→Rep w I pl y (ev x)):∀(l:List Operand){r:List AV},argsD fr l=some r→RepL w I pl r (l.map ev)
 | [],r,h=>by
   simp only [argsD] at h
   injection h with h
   subst h
   simp [RepL]
 | x::l,r,h=>by
   unfold argsD at h
   split at h
   ·rename_i v l' hv hl
    injection h with h
    subst h
    simp only [List.map_cons,RepL]
    exact⟨_,_,rfl,hev x v hv,args_ok hev l hl⟩
   ·cases h
set_option maxHeartbeats 1000000 in
theorem op_ok(hG:GOK G P)(hr:HR w I pl hp){base:Nat}(hb:pl base=none){o:Oper}{fr:Fr}{ev:Operand→Value}(hev:∀ x y,opv fr x=some y→Rep w I pl y (ev x))(hf:∀ f,ev (.func f) = .func (.func f) #[] #[]){x:AV}{up:Hp}(h:opD G base o fr hp=some (x,up)) :
  OpOK P o ev w I pl hp base x up:=by
 have map1:∀{y:Option AV}{x:AV}{up:Hp},y.map (fun z=>(z,([]:Hp)))=some (x,up)→y=some x∧up=[]:=by
  intro y x up h
  cases y with
  | none=>cases h
  | some z =>
    simp at h
    exact⟨by rw [h.1],h.2⟩
 obtain⟨dst,op,type,pos,after,guard⟩:=o
 unfold opD at h
 split at h
 case h_1 y hop =>
  simp only at hop
  subst hop
  obtain⟨h1,rfl⟩:=map1 h
  exact OpOK.same (ev y) hr (by simp [execOp]) (hev _ _ h1)
 case h_2 y hop =>
  simp only at hop
  subst hop
  obtain⟨h1,rfl⟩:=map1 h
  exact OpOK.same (ev y) hr (by simp [execOp]) (hev _ _ h1)
 case h_3 c a b hop =>
  simp only at hop
  subst hop
  split at h
  ·rename_i t hc
   obtain⟨h1,rfl⟩:=map1 h
   have hc':=hev _ _ hc
   simp only [Rep] at hc'
   refine OpOK.same (ev (if t then a else b)) hr ?_ (hev _ _ h1)
   cases t<;>simp [execOp,hc',asBool]
  ·cases h
 case h_4 T hop =>
  simp only at hop
  subst hop
  cases hT:G.ty T with
  | none=>simp [hT] at h
  | some i =>
    simp [hT] at h
    obtain⟨rfl,rfl⟩:=h
    obtain⟨z,zs,k1,k2,k3,k4,k5,k6⟩:=run_zero (hG.ty _ _ hT) w
    obtain⟨r1,r2,r3⟩:=newVar_ok (P:=P) hr hb (v:=z) T k2 k4 (k3 I pl w)
    refine OpOK.mk' (.pointer (some ⟨w.heap.size,0,none⟩)) ?_ r2 r3 upd_out
    simp [execOp,Instr.alloc,k1,r1]
 case h_5 T y hop =>
  simp only at hop
  subst hop
  cases hy:opv fr y with
  | none=>simp [hy] at h
  | some z =>
    cases hc:cellsOf z with
    | none=>simp [hy,hc] at h
    | some cs =>
      simp [hy,hc] at h
      obtain⟨rfl,rfl⟩:=h
      obtain⟨us,k1,k2,k3⟩:=rep_cells (hev _ _ hy) hc
      obtain⟨r1,r2,r3⟩:=newVar_ok (P:=P) hr hb (v:=ev y) T k1 k2 k3
      refine OpOK.mk' (.pointer (some ⟨w.heap.size,0,none⟩)) ?_ r2 r3 upd_out
      simp [execOp,Instr.box,r1]
 case h_6 T ps hop =>
  simp only at hop
  subst hop
  obtain⟨h1,rfl⟩:=map1 h
  cases hps:partsD fr ps.toList with
  | none=>simp [hps] at h1
  | some r =>
    simp [hps] at h1
    have:=build_ok hG (parts_ok hev _ hps) h1 (ps.map fun q=>(q.1,ev q.2)) (by simp)
    exact OpOK.pure hr this rfl
 case h_7 T n ps hop =>
  simp only at hop
  subst hop
  cases hps:partsD fr ps.toList with
  | none=>simp [hps] at h
  | some r =>
    simp [hps] at h
    have:=buildSlice_ok hG hr hb (parts_ok hev _ hps) h (ps.map fun q=>(q.1,ev q.2)) (by simp)
    exact Made.op this rfl
 case h_8 T a hop =>
  simp only at hop
  subst hop
  obtain⟨h1,rfl⟩:=map1 h
  cases ha:opv fr a with
  | none=>simp [ha] at h1
  | some z =>
    simp [ha] at h1
    exact OpOK.pure hr (load_ok hG hr (hev _ _ ha) h1) rfl
 case h_9 T a y hop =>
  simp only at hop
  subst hop
  split at h
  ·rename_i av yv ha hy
   cases hs:storeD G hp T av yv with
   | none=>simp [hs] at h
   | some u =>
     simp [hs] at h
     obtain⟨rfl,rfl⟩:=h
     obtain⟨w',k1,k2,k3⟩:=store_ok hG hr (hev _ _ ha) (hev _ _ hy) hs
     exact⟨.skip,undef,w',I,pl,by simp [execOp,k1],.inr ⟨rfl,rfl⟩,by simp only [Rep],k3,k2,fun _ _=>rfl⟩
  ·cases h
 case h_10 y hop =>
  simp only at hop
  subst hop
  split at h
  ·rename_i b f hy
   injection h with h;injection h with h1 h2;subst h1 h2
   have hx:=hev _ _ hy
   refine OpOK.same (ev y) hr ?_ hx
   simp only [Rep] at hx
   obtain⟨g,sz,cap,_,hx⟩:=hx
   simp [execOp,hx]
  ·rename_i b i f hy
   injection h with h;injection h with h1 h2;subst h1 h2
   have hx:=hev _ _ hy
   refine OpOK.same (ev y) hr ?_ hx
   simp only [Rep] at hx
   obtain⟨g,sz,cap,_,hx⟩:=hx
   simp [execOp,hx]
  ·rename_i cs hy
   injection h with h;injection h with h1 h2;subst h1 h2
   have hx:=hev _ _ hy
   refine OpOK.same (ev y) hr ?_ hx
   simp only [Rep] at hx
   obtain⟨g,off,hx,_⟩:=hx
   simp [execOp,hx]
  ·rename_i f cs hy
   injection h with h;injection h with h1 h2;subst h1 h2
   have hx:=hev _ _ hy
   refine OpOK.same (ev y) hr ?_ hx
   simp only [Rep] at hx
   obtain⟨vs,hx,_⟩:=hx
   simp [execOp,hx]
  ·cases h
 case h_11 op T a b U hop =>
  simp only at hop
  subst hop
  split at h
  ·rename_i av bv ha hb'
   obtain⟨h1,rfl⟩:=map1 h
   obtain⟨v,k1,k2⟩:=bin_ok hG (hev _ _ ha) (hev _ _ hb') h1
   refine OpOK.same v hr ?_ k2
   simp [execOp,guard_ok (P:=P) (x:=a) (y:=b) (hev _ _ ha) (hev _ _ hb') h1,k1]
  ·cases h
 case h_12 op T a hop =>
  simp only at hop
  subst hop
  obtain⟨h1,rfl⟩:=map1 h
  cases ha:opv fr a with
  | none=>simp [ha] at h1
  | some z =>
    simp [ha] at h1
    exact OpOK.pure hr (un_ok (hev _ _ ha) h1) rfl
 case h_13 S T a hop =>
  simp only at hop
  subst hop
  obtain⟨h1,rfl⟩:=map1 h
  cases ha:opv fr a with
  | none=>simp [ha] at h1
  | some z =>
    simp [ha] at h1
    exact OpOK.pure hr (conv_ok hG (hev _ _ ha) h1) rfl
 case h_14 T a hop =>
  simp only at hop
  subst hop
  split at h
  ·rename_i _ k s b z v hT ha
   injection h with h;injection h with h1 h2;subst h1 h2
   refine OpOK.pure hr (s:=Instr.makeInterface T (ev a)) ⟨.iface T (ev a),?_,?_⟩ rfl
   ·simp [Instr.makeInterface,run_und (hG.ty _ _ hT)]
   ·simp only [Rep];exact⟨_,rfl,hev _ _ ha⟩
  ·rename_i _ s b z v hT ha
   injection h with h;injection h with h1 h2;subst h1 h2
   refine OpOK.pure hr (s:=Instr.makeInterface T (ev a)) ⟨.iface T (ev a),?_,?_⟩ rfl
   ·simp [Instr.makeInterface,run_und (hG.ty _ _ hT)]
   ·simp only [Rep];exact⟨_,rfl,hev _ _ ha⟩
  ·cases h
 case h_15 f first cap hop =>
  simp only at hop
  subst hop
  split at h
  ·rename_i hfirst
   cases hl:argsD fr cap.toList with
   | none=>simp [hl] at h
   | some l =>
     simp [hl] at h
     obtain⟨rfl,rfl⟩:=h
     have hfe:first=#[]:=by simpa using hfirst
     refine OpOK.pure hr (s:=Instr.makeFunc (.func f) (first.map ev) (cap.map ev)) ⟨.func (.func f) #[] (cap.map ev),?_,?_⟩ rfl
     ·simp [Instr.makeFunc,hfe]
     ·simp only [Rep]
      exact⟨cap.toList.map ev,by congr 1;apply Array.ext';simp,args_ok hev _ hl⟩
  ·cases h
 case h_16 T l c hop =>
  simp only at hop
  subst hop
  split at h
  ·rename_i lv cv hl hc
   exact Made.op (makeSlice_ok hG hr hb (hev _ _ hl) (hev _ _ hc) h) rfl
  ·cases h
 case h_17 T y lo hi hop =>
  simp only at hop
  subst hop
  split at h
  ·rename_i yv hy hlo hhi
   obtain⟨h1,rfl⟩:=map1 h
   have e1:lo=none:=by simpa using hlo
   have e2:hi=none:=by simpa using hhi
   subst e1 e2
   exact OpOK.pure hr (slice_ok hG hr (lo:=none) (hi:=none) (hev _ _ hy) (by simp [RepO]) (by simp [RepO]) h1) rfl
  ·rename_i yv lv hy hlo hhi
   obtain⟨h1,rfl⟩:=map1 h
   have e2:hi=none:=by simpa using hhi
   subst e2
   cases lo with
   | none=>simp at hlo
   | some a =>
     simp at hlo
     exact OpOK.pure hr (slice_ok hG hr (lo:=some lv) (hi:=none) (hev _ _ hy) (by simp only [RepO];exact⟨_,rfl,hev _ _ hlo⟩) (by simp [RepO]) h1) rfl
  ·rename_i yv hv hy hlo hhi
   obtain⟨h1,rfl⟩:=map1 h
   have e1:lo=none:=by simpa using hlo
   subst e1
   cases hi with
   | none=>simp at hhi
   | some a =>
     simp at hhi
     exact OpOK.pure hr (slice_ok hG hr (lo:=none) (hi:=some hv) (hev _ _ hy) (by simp [RepO]) (by simp only [RepO];exact⟨_,rfl,hev _ _ hhi⟩) h1) rfl
  ·rename_i yv lv hv hy hlo hhi
   obtain⟨h1,rfl⟩:=map1 h
   cases lo with
   | none=>simp at hlo
   | some a =>
     cases hi with
     | none=>simp at hhi
     | some b =>
       simp at hlo hhi
       exact OpOK.pure hr (slice_ok hG hr (lo:=some lv) (hi:=some hv) (hev _ _ hy) (by simp only [RepO];exact⟨_,rfl,hev _ _ hlo⟩) (by simp only [RepO];exact⟨_,rfl,hev _ _ hhi⟩) h1) rfl
  ·cases h
 case h_18 S y f hop =>
  simp only at hop
  subst hop
  obtain⟨h1,rfl⟩:=map1 h
  cases ha:opv fr y with
  | none=>simp [ha] at h1
  | some z =>
    simp [ha] at h1
    exact OpOK.pure hr (fieldAddr_ok hG (hev _ _ ha) h1) rfl
 case h_19 S y f hop =>
  simp only at hop
  subst hop
  obtain⟨h1,rfl⟩:=map1 h
  cases ha:opv fr y with
  | none=>simp [ha] at h1
  | some z =>
    simp [ha] at h1
    exact OpOK.pure hr (field_ok hG (hev _ _ ha) h1) rfl
 case h_20 T y i hop =>
  simp only at hop
  subst hop
  split at h
  ·rename_i yv iv hy hi
   obtain⟨h1,rfl⟩:=map1 h
   exact OpOK.pure hr (indexAddr_ok hG hr (hev _ _ hy) (hev _ _ hi) h1) rfl
  ·cases h
 case h_21 T y i hop =>
  simp only at hop
  subst hop
  split at h
  ·rename_i yv iv hy hi
   obtain⟨h1,rfl⟩:=map1 h
   exact OpOK.pure hr (index_ok hG (hev _ _ hy) (hev _ _ hi) h1) rfl
  ·cases h
 case h_22 t i hop =>
  simp only at hop
  subst hop
  split at h
  ·rename_i vs ht
   obtain⟨h1,rfl⟩:=map1 h
   have hx:=hev _ _ ht
   simp only [Rep] at hx
   obtain⟨us,e1,e2⟩:=hx
   obtain⟨u,k1,k2⟩:=repL_get e2 h1
   refine OpOK.pure hr (s:=Instr.extract (ev t) i) ⟨u,?_,k2⟩ rfl
   rw [e1]
   have:us.toArray[i]?=some u:=by simpa using k1
   simp [Instr.extract,this]
  ·cases h
 case h_23 T hop =>
  simp only at hop
  subst hop
  split at h
  ·rename_i hT
   injection h with h;injection h with h1 h2;subst h1 h2
   have hn:=hr.new hb (.map #[] 0) (o := .mapo []) 0 0 ⟨w.heap.size,0,0,#[],0,upd_self _ _ _,heap_alloc_new _ _,by simp [RepMap]⟩
   refine OpOK.mk' (.map (some w.heap.size)) ?_ ?_ hn upd_out
   ·simp [execOp,Instr.makeMap]
   ·simp only [Rep];exact⟨_,_,_,upd_self _ _ _,rfl⟩
  ·cases h
 case h_24 T m k ok hop =>
  simp only at hop
  subst hop
  split at h
  ·rename_i b s ie hm hk hT
   split at h
   ·rename_i es hlb
    have hl:=lookup_ok hG hr (hev _ _ hm) (hev _ _ hk) hT hlb ok
    split at h
    ·rename_i v hv
     injection h with h;injection h with h1 h2;subst h1 h2
     rw [hv] at hl
     exact OpOK.pure hr hl rfl
    ·rename_i hv
     rw [hv] at hl
     cases hz:ofCells ie.agg ie.zero with
     | none=>simp [hz] at h
     | some z =>
       simp [hz] at h
       obtain⟨h1,rfl⟩:=h
       subst h1
       exact OpOK.pure hr (hl z hz) rfl
   ·cases h
  ·cases h
 case h_25 T m k y hop =>
  simp only at hop
  subst hop
  split at h
  ·rename_i b s yv ie hm hk hy hT
   split at h
   ·rename_i es hlb
    split at h
    ·cases h
    ·rename_i hn
     injection h with h;injection h with h1 h2;subst h1 h2
     obtain⟨w',k1,k2,k3⟩:=mapUpdate_ok hG hr (hev _ _ hm) (hev _ _ hk) (hev _ _ hy) hT hlb hn
     exact⟨.skip,undef,w',I,pl,by simp [execOp,k1],.inr ⟨rfl,rfl⟩,by simp only [Rep],k3,k2,fun _ _=>rfl⟩
   ·cases h
  ·cases h
 case h_26 args argTypes hop =>
  simp only at hop
  subst hop
  split at h
  ·rename_i y T ha hT
   obtain⟨h1,rfl⟩:=map1 h
   cases hy:opv fr y with
   | none=>simp [hy] at h1
   | some z =>
     simp [hy] at h1
     have ea:args=#[y]:=by apply Array.ext';simpa using ha
     have et:argTypes=#[T]:=by apply Array.ext';simpa using hT
     subst ea et
     exact OpOK.pure hr (s:=Builtin.len_ #[T] type #[ev y]) (len_ok hG (hev _ _ hy) h1) (by simp [execOp,resolve,invoke,builtin])
  ·cases h
 case h_27 args argTypes hop =>
  simp only at hop
  subst hop
  split at h
  ·rename_i s y T U ha hT
   split at h
   ·rename_i hU
    split at h
    ·rename_i sv yv hs hy
     have ea:args=#[s,y]:=by apply Array.ext';simpa using ha
     have et:argTypes=#[T,U]:=by apply Array.ext';simpa using hT
     have hTU:=Nat.eq_of_beq_eq_true hU
     subst ea et hTU
     exact Made.op (s:=Builtin.append_ #[T,T] type #[ev s,ev y]) (append_ok hG hr hb (hev _ _ hs) (hev _ _ hy) h) (by simp [execOp,resolve,invoke,builtin])
    ·cases h
   ·cases h
  ·cases h
 case h_28 args argTypes hop =>
  simp only at hop
  subst hop
  split at h
  ·rename_i d y T U ha hT
   split at h
   ·rename_i dv yv hd hy
    have ea:args=#[d,y]:=by apply Array.ext';simpa using ha
    have et:argTypes=#[T,U]:=by apply Array.ext';simpa using hT
    subst ea et
    exact Made.op (s:=Builtin.copy_ #[T,U] type #[ev d,ev y]) (copy_ok hG hr (hev _ _ hd) (hev _ _ hy) h) (by simp [execOp,resolve,invoke,builtin])
   ·cases h
  ·cases h
 case h_29 args argTypes hop =>
  simp only at hop
  subst hop
  split at h
  ·rename_i y r ha
   obtain⟨h1,rfl⟩:=map1 h
   have hl:=args_ok hev _ ha
   simp only [RepL] at hl
   obtain⟨u,us,e1,e2,e3⟩:=hl
   have:=max_ok (P:=P) true r e2 e3 h1
   refine OpOK.pure hr (s:=Builtin.max_ argTypes type (args.map ev)) ?_ (by simp [execOp,resolve,invoke,builtin])
   simpa [Builtin.max_,e1] using this
  ·cases h
 case h_30 args argTypes hop =>
  simp only at hop
  subst hop
  split at h
  ·rename_i y r ha
   obtain⟨h1,rfl⟩:=map1 h
   have hl:=args_ok hev _ ha
   simp only [RepL] at hl
   obtain⟨u,us,e1,e2,e3⟩:=hl
   have:=max_ok (P:=P) false r e2 e3 h1
   refine OpOK.pure hr (s:=Builtin.min_ argTypes type (args.map ev)) ?_ (by simp [execOp,resolve,invoke,builtin])
   simpa [Builtin.min_,e1] using this
  ·cases h
 case h_31=>cases h
end
end Go.Proofs.YtdhcgankmhpgeaaGreat.M
