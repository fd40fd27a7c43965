import Derived.Test.YtdhcgankmhpgeaaGreatB01
import Derived.Test.YtdhcgankmhpgeaaGreatProg
import Derived.KernelRfl
import Derived.Recover
import Derived.Tactics
import Derived.Tactics2
import Derived.Defers
import Derived.Laws.Pointers
import Derived.WalkKit
set_option linter.all false
namespace Go.Proofs.YtdhcgankmhpgeaaGreat.M
open Go
inductive Tr(α:Type) where
 | leaf
 | node (k:Nat) (x:α) (l r:Tr α)
def Tr.find{α:Type}(n:Nat):Tr α→Option α
 | .leaf=>none
 | .node k x l r=>if Nat.beq n k then some x else if Nat.blt n k then l.find n else r.find n
def Tr.All{α:Type}(p:Nat→α→Prop):Tr α→Prop
 | .leaf=>True
 | .node k x l r=>p k x∧l.All p∧r.All p
theorem Tr.find_all{α:Type}{p:Nat→α→Prop}{n:Nat}{x:α}:∀{t:Tr α},t.All p→t.find n=some x→p n x
 | .leaf,_,h=>by cases h
 | .node k y l r,⟨h1,h2,h3⟩,h=>by
   unfold Tr.find at h
   split at h
   ·rename_i e
    have:=Nat.eq_of_beq_eq_true e
    subst this
    injection h with h
    subst h
    exact h1
   ·split at h
    ·exact Tr.find_all h2 h
    ·exact Tr.find_all h3 h
def isAggD:TypeDesc→Bool
 | .struct _ | .array _ _=>true
 | _=>false
def isAggV:Value→Bool
 | .agg _=>true
 | _=>false
def tyOf(P:Program)(t:Nat):Option TI :=
 match P.underlying t,P.info? t with
 | some d,some inf=>match inf.zero with
   | some z=>match z.cells.toList.mapM ofS with
     | some zs=>if z.cells.size=inf.size∧isAggV z=isAggD d then some ⟨d,inf.size,inf.bytes,zs⟩ else none
     | none=>none
   | none=>none
 | _,_=>none
theorem tyOf_ok{P:Program}{t:Nat}{i:TI}(h:tyOf P t=some i):TyOK P t i:=by
 unfold tyOf at h
 split at h
 ·rename_i d inf hd hi
  split at h
  ·rename_i z hz
   split at h
   ·rename_i zs hzs
    split at h
    ·rename_i hc
     injection h with h
     subst h
     refine⟨hd,inf,z,hi,rfl,rfl,hz,hzs,hc.1,?_⟩
     have e:TI.agg ⟨d,inf.size,inf.bytes,zs⟩=isAggV z:=by
      rw [hc.2]
      unfold TI.agg isAggD
      cases d<;>rfl
     rw [e]
     cases z<;>simp [isAggV,Value.cells]
    ·cases h
   ·cases h
  ·cases h
 ·cases h
theorem GOK.of {P:Program} {ty:Tr TI} {fn:Tr Func} {pu:Nat→Option (List AV→Option AE)} (h1:ty.All fun t i=>tyOf P t=some i) (h2:fn.All fun f F=>P.funcs[f]?=some F∧(F.name == "runtime.NumGoroutine")=false) :
  GOK ⟨fun t=>ty.find t,fun f=>fn.find f,pu⟩ P :=
 ⟨fun t i h=>tyOf_ok (Tr.find_all h1 h),fun f F h=>Tr.find_all h2 h⟩
end Go.Proofs.YtdhcgankmhpgeaaGreat.M
namespace Go.Proofs.YtdhcgankmhpgeaaGreat.M
open Go
noncomputable abbrev fd (s:String) (t o b:Nat):Field:=⟨s,t,o,false,"","",b⟩
noncomputable abbrev lf:Tr Func := .leaf
noncomputable abbrev lt:Tr TI := .leaf
noncomputable abbrev nf(k:Nat)(F:Func)(a b:Tr Func):Tr Func := .node k F a b
noncomputable abbrev nt(k:Nat)(F:TI)(a b:Tr TI):Tr TI := .node k F a b
abbrev AF (t:Tr Func):Prop:=t.All fun f F=>Tryz.prog.funcs[f]?=some F∧(F.name == "runtime.NumGoroutine")=false
abbrev AT(t:Tr TI):Prop:=t.All fun t i=>tyOf Tryz.prog t=some i
theorem af_ {k:Nat} {F:Func} {a b:Tr Func} (h:Tryz.prog.funcs[k]?=some F) (h':(F.name == "runtime.NumGoroutine")=false) (x:AF a) (y:AF b):AF (nf k F a b):=⟨⟨h,h'⟩,x,y⟩
theorem at_{k:Nat}{F:TI}{a b:Tr TI}(h:tyOf Tryz.prog k=some F)(x:AT a)(y:AT b):AT (nt k F a b):=⟨h,x,y⟩
noncomputable def ty2:TI:=⟨.int (.i64),1,8,[.int .i64 0]⟩
noncomputable def ty3:TI:=⟨.int (.i64),1,8,[.int .i64 0]⟩
noncomputable def ty4:TI:=⟨.bool,1,1,[.bool false]⟩
noncomputable def ty5:TI:=⟨.int (.u8),1,1,[.int .u8 0]⟩
noncomputable def ty9:TI:=⟨.string,1,16,[.str []]⟩
noncomputable def ty20:TI:=⟨.interface #[],1,16,[.nilif]⟩
noncomputable def ty21:TI:=⟨.int (.i32),1,4,[.int .i32 0]⟩
noncomputable def ty22:TI:=⟨.slice 83,1,24,[.nils]⟩
noncomputable def ty23:TI:=⟨.slice 33,1,24,[.nils]⟩
noncomputable def ty24:TI:=⟨.slice 4,1,24,[.nils]⟩
noncomputable def ty26:TI:=⟨.struct #[fd "Vals" 23 0 0,fd "Before" 23 1 24,fd "Event" 24 2 48,fd "Time" 3 3 72],4,80,[.nils,.nils,.nils,.int .i64 0]⟩
noncomputable def ty28:TI:=⟨.struct #[fd "Funs" 22 0 0,fd "Vars" 23 1 24,fd "Now" 26 2 48],6,128,[.nils,.nils,.nils,.nils,.nils,.int .i64 0]⟩
noncomputable def ty29:TI:=⟨.int (.i64),1,8,[.int .i64 0]⟩
noncomputable def ty30:TI:=⟨.slice 162,1,24,[.nils]⟩
noncomputable def ty31:TI:=⟨.int (.i64),1,8,[.int .i64 0]⟩
noncomputable def ty33:TI:=⟨.struct #[fd "Kind" 31 0 0,fd "N" 3 1 8,fd "Bits" 30 2 16,fd "List" 23 3 40],4,64,[.int .i64 0,.int .i64 0,.nils,.nils]⟩
noncomputable def ty34:TI:=⟨.slice 40,1,24,[.nils]⟩
noncomputable def ty35:TI:=⟨.slice 9,1,24,[.nils]⟩
noncomputable def ty36:TI:=⟨.slice 38,1,24,[.nils]⟩
noncomputable def ty38:TI:=⟨.struct #[fd "Kind" 31 0 0,fd "Len" 3 1 8,fd "Name" 9 2 16,fd "Names" 35 3 32,fd "Elem" 36 4 56],5,80,[.int .i64 0,.int .i64 0,.str [],.nils,.nils]⟩
noncomputable def ty40:TI:=⟨.struct #[fd "Op" 29 0 0,fd "Name" 9 1 8,fd "N" 3 2 24,fd "Bits" 30 3 32,fd "Val" 33 4 56,fd "Kids" 34 8 120,fd "Type" 38 9 144,fd "Line" 3 14 224,fd "Col" 3 15 232],16,240,[.int .i64 0,.str [],.int .i64 0,.nils,.int .i64 0,.int .i64 0,.nils,.nils,.nils,.int .i64 0,.int .i64 0,.str [],.nils,.nils,.int .i64 0,.int .i64 0]⟩
noncomputable def ty43:TI:=⟨.int (.i64),1,8,[.int .i64 0]⟩
noncomputable def ty66:TI:=⟨.array 2 3,2,16,[.int .i64 0,.int .i64 0]⟩
noncomputable def ty78:TI:=⟨.slice 3,1,24,[.nils]⟩
noncomputable def ty79:TI:=⟨.slice 94,1,24,[.nils]⟩
noncomputable def ty80:TI:=⟨.slice 366,1,24,[.nils]⟩
noncomputable def ty81:TI:=⟨.slice 66,1,24,[.nils]⟩
noncomputable def ty83:TI:=⟨.struct #[fd "Name" 9 0 0,fd "Params" 3 1 16,fd "Init" 34 2 24,fd "Vars" 23 3 48,fd "Types" 36 4 72,fd "Sens" 78 5 96,fd "Own" 4 6 120,fd "Body" 79 7 128,fd "Code" 80 8 152,fd "Drives" 81 9 176,fd "Reads" 78 10 200,fd "Result" 36 11 224],12,248,[.str [],.int .i64 0,.nils,.nils,.nils,.nils,.bool false,.nils,.nils,.nils,.nils,.nils]⟩
noncomputable def ty85:TI:=⟨.func #[40] #[4] false,1,8,[.nilfn]⟩
noncomputable def ty89:TI:=⟨.int (.i64),1,8,[.int .i64 0]⟩
noncomputable def ty90:TI:=⟨.slice 237,1,24,[.nils]⟩
noncomputable def ty91:TI:=⟨.slice 34,1,24,[.nils]⟩
noncomputable def ty92:TI:=⟨.slice 79,1,24,[.nils]⟩
noncomputable def ty94:TI:=⟨.struct #[fd "Op" 89 0 0,fd "Name" 9 1 8,fd "N" 3 2 24,fd "Target" 40 3 32,fd "Expr" 40 19 272,fd "Last" 40 35 512,fd "Waves" 90 51 752,fd "Transport" 4 52 776,fd "Conds" 34 53 784,fd "Choices" 91 54 808,fd "Bodies" 92 55 832,fd "On" 34 56 856,fd "Until" 34 57 880,fd "For" 34 58 904,fd "Text" 9 59 928,fd "Line" 3 60 944,fd "Col" 3 61 952],62,960,[.int .i64 0,.str [],.int .i64 0,.int .i64 0,.str [],.int .i64 0,.nils,.int .i64 0,.int .i64 0,.nils,.nils,.nils,.int .i64 0,.int .i64 0,.str [],.nils,.nils,.int .i64 0,.int .i64 0,.int .i64 0,.str [],.int .i64 0,.nils,.int .i64 0,.int .i64 0,.nils,.nils,.nils,.int .i64 0,.int .i64 0,.str [],.nils,.nils,.int .i64 0,.int .i64 0,.int .i64 0,.str [],.int .i64 0,.nils,.int .i64 0,.int .i64 0,.nils,.nils,.nils,.int .i64 0,.int .i64 0,.str [],.nils,.nils,.int .i64 0,.int .i64 0,.nils,.bool false,.nils,.nils,.nils,.nils,.nils,.nils,.str [],.int .i64 0,.int .i64 0]⟩
noncomputable def ty95:TI:=⟨.pointer 136,1,8,[.nilp]⟩
noncomputable def ty101:TI:=⟨.pointer 143,1,8,[.nilp]⟩
noncomputable def ty107:TI:=⟨.slice 322,1,24,[.nils]⟩
noncomputable def ty108:TI:=⟨.slice 318,1,24,[.nils]⟩
noncomputable def ty110:TI:=⟨.struct #[fd "Funs" 22 0 0,fd "Now" 26 1 24,fd "Count" 3 5 104,fd "Deep" 3 6 112,fd "E" 43 7 120,fd "Process" 4 8 128,fd "Signals" 107 9 136,fd "Assigns" 108 10 160,fd "Notes" 35 11 184],12,208,[.nils,.nils,.nils,.nils,.int .i64 0,.int .i64 0,.int .i64 0,.int .i64 0,.bool false,.nils,.nils,.nils]⟩
noncomputable def ty117:TI:=⟨.map 9 83,1,8,[.nilm]⟩
noncomputable def ty120:TI:=⟨.pointer 122,1,8,[.nilp]⟩
noncomputable def ty122:TI:=⟨.struct #[fd "Funs" 22 0 0,fd "Now" 26 1 24,fd "Steps" 3 5 104,{ name := "deep",type:=3,offset:=6,embedded:=false,tag := "",pkgPath := "netwright/eval",byteOffset:=112 }],7,120,[.nils,.nils,.nils,.nils,.int .i64 0,.int .i64 0,.int .i64 0]⟩
noncomputable def ty134:TI:=⟨.func #[3,38] #[4] false,1,8,[.nilfn]⟩
noncomputable def ty136:TI:=⟨.struct #[fd "Sig" 134 0 0,fd "Edge" 134 1 8,fd "Var" 134 2 16,fd "Funs" 117 3 24],4,32,[.nilfn,.nilfn,.nilfn,.nilm]⟩
noncomputable def ty140:TI:=⟨.func #[94] #[] false,1,8,[.nilfn]⟩
noncomputable def ty141:TI:=⟨.func #[9] #[] false,1,8,[.nilfn]⟩
noncomputable def ty143:TI:=⟨.struct #[{ name := "Machine",type:=120,offset:=0,embedded:=true,tag := "",pkgPath := "",byteOffset:=0 },fd "Vars" 23 1 8,fd "Signal" 140 2 32,fd "Note" 141 3 40],4,48,[.nilp,.nils,.nilfn,.nilfn]⟩
noncomputable def ty144:TI:=⟨.slice 217,1,24,[.nils]⟩
noncomputable def ty151:TI:=⟨.slice 162,1,24,[.nils]⟩
noncomputable def ty153:TI:=⟨.struct #[{ name := "a",type:=151,offset:=0,embedded:=false,tag := "",pkgPath := "netwright/vec",byteOffset:=0 },{ name := "b",type:=151,offset:=1,embedded:=false,tag := "",pkgPath := "netwright/vec",byteOffset:=24 }],2,48,[.nils,.nils]⟩
noncomputable def ty155:TI:=⟨.int (.u64),1,8,[.int .u64 0]⟩
noncomputable def ty162:TI:=⟨.int (.u8),1,1,[.int .u8 0]⟩
noncomputable def ty168:TI:=⟨.slice 23,1,24,[.nils]⟩
noncomputable def ty169:TI:=⟨.func #[33] #[4] false,1,8,[.nilfn]⟩
noncomputable def ty170:TI:=⟨.slice 303,1,24,[.nils]⟩
noncomputable def ty172:TI:=⟨.struct #[fd "Funs" 22 0 0,fd "By" 3 1 24,fd "Vars" 36 2 32,fd "Sigs" 36 3 56,fd "Holds" 23 4 80,fd "Now" 26 5 104,fd "Scope" 170 9 184,fd "First" 3 10 208,fd "Fun" 4 11 216,fd "Out" 4 12 217],13,224,[.nils,.int .i64 0,.nils,.nils,.nils,.nils,.nils,.nils,.int .i64 0,.nils,.int .i64 0,.bool false,.bool false]⟩
noncomputable def ty178:TI:=⟨.struct #[{ name := "left",type:=3,offset:=0,embedded:=false,tag := "",pkgPath := "netwright/netwrightref06",byteOffset:=0 },{ name := "deep",type:=3,offset:=1,embedded:=false,tag := "",pkgPath := "netwright/netwrightref06",byteOffset:=8 }],2,16,[.int .i64 0,.int .i64 0]⟩
noncomputable def ty212:TI:=⟨.slice 265,1,24,[.nils]⟩
noncomputable def ty217:TI:=⟨.struct #[fd "High" 3 0 0,fd "Low" 3 1 8,fd "One" 4 2 16],3,24,[.int .i64 0,.int .i64 0,.bool false]⟩
noncomputable def ty230:TI:=⟨.array 2 162,2,2,[.int .u8 0,.int .u8 0]⟩
noncomputable def ty237:TI:=⟨.struct #[fd "Expr" 40 0 0,fd "After" 34 16 240],17,264,[.int .i64 0,.str [],.int .i64 0,.nils,.int .i64 0,.int .i64 0,.nils,.nils,.nils,.int .i64 0,.int .i64 0,.str [],.nils,.nils,.int .i64 0,.int .i64 0,.nils]⟩
noncomputable def ty241:TI:=⟨.pointer 243,1,8,[.nilp]⟩
noncomputable def ty243:TI:=⟨.struct #[{ name := "Env",type:=95,offset:=0,embedded:=true,tag := "",pkgPath := "",byteOffset:=0 },{ name := "fun",type:=4,offset:=1,embedded:=false,tag := "",pkgPath := "netwright/typed",byteOffset:=8 },{ name := "list",type:=4,offset:=2,embedded:=false,tag := "",pkgPath := "netwright/typed",byteOffset:=9 },{ name := "result",type:=36,offset:=3,embedded:=false,tag := "",pkgPath := "netwright/typed",byteOffset:=16 }],4,40,[.nilp,.bool false,.bool false,.nils]⟩
noncomputable def ty251:TI:=⟨.array 3 162,3,3,[.int .u8 0,.int .u8 0,.int .u8 0]⟩
noncomputable def ty253:TI:=⟨.array 3 251,9,9,[.int .u8 0,.int .u8 0,.int .u8 0,.int .u8 0,.int .u8 0,.int .u8 0,.int .u8 0,.int .u8 0,.int .u8 0]⟩
noncomputable def ty265:TI:=⟨.struct #[fd "Type" 38 0 0,fd "High" 3 5 80,fd "Low" 3 6 88,fd "Slice" 4 7 96],8,104,[.int .i64 0,.int .i64 0,.str [],.nils,.nils,.int .i64 0,.int .i64 0,.bool false]⟩
noncomputable def ty299:TI:=⟨.int (.u64),1,8,[.int .u64 0]⟩
noncomputable def ty303:TI:=⟨.slice 307,1,24,[.nils]⟩
noncomputable def ty304:TI:=⟨.int (.i64),1,8,[.int .i64 0]⟩
noncomputable def ty305:TI:=⟨.int (.i64),1,8,[.int .i64 0]⟩
noncomputable def ty307:TI:=⟨.struct #[fd "Kind" 304 0 0,fd "Name" 9 1 8,fd "Type" 38 2 24,fd "Val" 33 7 104,fd "N" 3 11 168,fd "Mode" 305 12 176,fd "Params" 36 13 184,fd "Result" 36 14 208,fd "Full" 9 15 232],16,248,[.int .i64 0,.str [],.int .i64 0,.int .i64 0,.str [],.nils,.nils,.int .i64 0,.int .i64 0,.nils,.nils,.int .i64 0,.int .i64 0,.nils,.nils,.str []]⟩
noncomputable def ty311:TI:=⟨.func #[237] #[4] false,1,8,[.nilfn]⟩
noncomputable def ty318:TI:=⟨.struct #[fd "Sig" 3 0 0,fd "Place" 3 1 8,fd "Vals" 168 2 16,fd "After" 78 3 40,fd "Transport" 4 4 64],5,72,[.int .i64 0,.int .i64 0,.nils,.nils,.bool false]⟩
noncomputable def ty322:TI:=⟨.struct #[fd "Name" 9 0 0,fd "Type" 38 1 16,fd "Init" 33 6 96,fd "Mode" 305 10 160],11,168,[.str [],.int .i64 0,.int .i64 0,.str [],.nils,.nils,.int .i64 0,.int .i64 0,.nils,.nils,.int .i64 0]⟩
noncomputable def ty323:TI:=⟨.slice 30,1,24,[.nils]⟩
noncomputable def ty326:TI:=⟨.int (.u32),1,4,[.int .u32 0]⟩
noncomputable def ty366:TI:=⟨.struct #[fd "Op" 3 0 0,fd "A" 3 1 8,fd "B" 3 2 16,fd "Val" 33 3 24,fd "Type" 38 7 88,fd "Text" 9 12 168],13,184,[.int .i64 0,.int .i64 0,.int .i64 0,.int .i64 0,.int .i64 0,.nils,.nils,.int .i64 0,.int .i64 0,.str [],.nils,.nils,.str []]⟩
noncomputable def tt2:=nt 2 ty2 lt lt
theorem tt2a:AT tt2:=at_ (by kernel_rfl) trivial trivial
noncomputable def tt3:=nt 3 ty3 tt2 lt
theorem tt3a:AT tt3:=at_ (by kernel_rfl) tt2a trivial
noncomputable def tt5:=nt 5 ty5 lt lt
theorem tt5a:AT tt5:=at_ (by kernel_rfl) trivial trivial
noncomputable def tt4:=nt 4 ty4 tt3 tt5
theorem tt4a:AT tt4:=at_ (by kernel_rfl) tt3a tt5a
noncomputable def tt20:=nt 20 ty20 lt lt
theorem tt20a:AT tt20:=at_ (by kernel_rfl) trivial trivial
noncomputable def tt21:=nt 21 ty21 tt20 lt
theorem tt21a:AT tt21:=at_ (by kernel_rfl) tt20a trivial
noncomputable def tt23:=nt 23 ty23 lt lt
theorem tt23a:AT tt23:=at_ (by kernel_rfl) trivial trivial
noncomputable def tt22:=nt 22 ty22 tt21 tt23
theorem tt22a:AT tt22:=at_ (by kernel_rfl) tt21a tt23a
noncomputable def tt9:=nt 9 ty9 tt4 tt22
theorem tt9a:AT tt9:=at_ (by kernel_rfl) tt4a tt22a
noncomputable def tt26:=nt 26 ty26 lt lt
theorem tt26a:AT tt26:=at_ (by kernel_rfl) trivial trivial
noncomputable def tt28:=nt 28 ty28 tt26 lt
theorem tt28a:AT tt28:=at_ (by kernel_rfl) tt26a trivial
noncomputable def tt30:=nt 30 ty30 lt lt
theorem tt30a:AT tt30:=at_ (by kernel_rfl) trivial trivial
noncomputable def tt29:=nt 29 ty29 tt28 tt30
theorem tt29a:AT tt29:=at_ (by kernel_rfl) tt28a tt30a
noncomputable def tt33:=nt 33 ty33 lt lt
theorem tt33a:AT tt33:=at_ (by kernel_rfl) trivial trivial
noncomputable def tt34:=nt 34 ty34 tt33 lt
theorem tt34a:AT tt34:=at_ (by kernel_rfl) tt33a trivial
noncomputable def tt36:=nt 36 ty36 lt lt
theorem tt36a:AT tt36:=at_ (by kernel_rfl) trivial trivial
noncomputable def tt35:=nt 35 ty35 tt34 tt36
theorem tt35a:AT tt35:=at_ (by kernel_rfl) tt34a tt36a
noncomputable def tt31:=nt 31 ty31 tt29 tt35
theorem tt31a:AT tt31:=at_ (by kernel_rfl) tt29a tt35a
noncomputable def tt24:=nt 24 ty24 tt9 tt31
theorem tt24a:AT tt24:=at_ (by kernel_rfl) tt9a tt31a
noncomputable def tt40:=nt 40 ty40 lt lt
theorem tt40a:AT tt40:=at_ (by kernel_rfl) trivial trivial
noncomputable def tt43:=nt 43 ty43 tt40 lt
theorem tt43a:AT tt43:=at_ (by kernel_rfl) tt40a trivial
noncomputable def tt78:=nt 78 ty78 lt lt
theorem tt78a:AT tt78:=at_ (by kernel_rfl) trivial trivial
noncomputable def tt66:=nt 66 ty66 tt43 tt78
theorem tt66a:AT tt66:=at_ (by kernel_rfl) tt43a tt78a
noncomputable def tt80:=nt 80 ty80 lt lt
theorem tt80a:AT tt80:=at_ (by kernel_rfl) trivial trivial
noncomputable def tt81:=nt 81 ty81 tt80 lt
theorem tt81a:AT tt81:=at_ (by kernel_rfl) tt80a trivial
noncomputable def tt85:=nt 85 ty85 lt lt
theorem tt85a:AT tt85:=at_ (by kernel_rfl) trivial trivial
noncomputable def tt83:=nt 83 ty83 tt81 tt85
theorem tt83a:AT tt83:=at_ (by kernel_rfl) tt81a tt85a
noncomputable def tt79:=nt 79 ty79 tt66 tt83
theorem tt79a:AT tt79:=at_ (by kernel_rfl) tt66a tt83a
noncomputable def tt90:=nt 90 ty90 lt lt
theorem tt90a:AT tt90:=at_ (by kernel_rfl) trivial trivial
noncomputable def tt91:=nt 91 ty91 tt90 lt
theorem tt91a:AT tt91:=at_ (by kernel_rfl) tt90a trivial
noncomputable def tt94:=nt 94 ty94 lt lt
theorem tt94a:AT tt94:=at_ (by kernel_rfl) trivial trivial
noncomputable def tt92:=nt 92 ty92 tt91 tt94
theorem tt92a:AT tt92:=at_ (by kernel_rfl) tt91a tt94a
noncomputable def tt101:=nt 101 ty101 lt lt
theorem tt101a:AT tt101:=at_ (by kernel_rfl) trivial trivial
noncomputable def tt108:=nt 108 ty108 lt lt
theorem tt108a:AT tt108:=at_ (by kernel_rfl) trivial trivial
noncomputable def tt107:=nt 107 ty107 tt101 tt108
theorem tt107a:AT tt107:=at_ (by kernel_rfl) tt101a tt108a
noncomputable def tt95:=nt 95 ty95 tt92 tt107
theorem tt95a:AT tt95:=at_ (by kernel_rfl) tt92a tt107a
noncomputable def tt89:=nt 89 ty89 tt79 tt95
theorem tt89a:AT tt89:=at_ (by kernel_rfl) tt79a tt95a
noncomputable def tt38:=nt 38 ty38 tt24 tt89
theorem tt38a:AT tt38:=at_ (by kernel_rfl) tt24a tt89a
noncomputable def tt117:=nt 117 ty117 lt lt
theorem tt117a:AT tt117:=at_ (by kernel_rfl) trivial trivial
noncomputable def tt120:=nt 120 ty120 tt117 lt
theorem tt120a:AT tt120:=at_ (by kernel_rfl) tt117a trivial
noncomputable def tt134:=nt 134 ty134 lt lt
theorem tt134a:AT tt134:=at_ (by kernel_rfl) trivial trivial
noncomputable def tt122:=nt 122 ty122 tt120 tt134
theorem tt122a:AT tt122:=at_ (by kernel_rfl) tt120a tt134a
noncomputable def tt140:=nt 140 ty140 lt lt
theorem tt140a:AT tt140:=at_ (by kernel_rfl) trivial trivial
noncomputable def tt141:=nt 141 ty141 tt140 lt
theorem tt141a:AT tt141:=at_ (by kernel_rfl) tt140a trivial
noncomputable def tt144:=nt 144 ty144 lt lt
theorem tt144a:AT tt144:=at_ (by kernel_rfl) trivial trivial
noncomputable def tt143:=nt 143 ty143 tt141 tt144
theorem tt143a:AT tt143:=at_ (by kernel_rfl) tt141a tt144a
noncomputable def tt136:=nt 136 ty136 tt122 tt143
theorem tt136a:AT tt136:=at_ (by kernel_rfl) tt122a tt143a
noncomputable def tt153:=nt 153 ty153 lt lt
theorem tt153a:AT tt153:=at_ (by kernel_rfl) trivial trivial
noncomputable def tt155:=nt 155 ty155 tt153 lt
theorem tt155a:AT tt155:=at_ (by kernel_rfl) tt153a trivial
noncomputable def tt168:=nt 168 ty168 lt lt
theorem tt168a:AT tt168:=at_ (by kernel_rfl) trivial trivial
noncomputable def tt162:=nt 162 ty162 tt155 tt168
theorem tt162a:AT tt162:=at_ (by kernel_rfl) tt155a tt168a
noncomputable def tt170:=nt 170 ty170 lt lt
theorem tt170a:AT tt170:=at_ (by kernel_rfl) trivial trivial
noncomputable def tt172:=nt 172 ty172 tt170 lt
theorem tt172a:AT tt172:=at_ (by kernel_rfl) tt170a trivial
noncomputable def tt212:=nt 212 ty212 lt lt
theorem tt212a:AT tt212:=at_ (by kernel_rfl) trivial trivial
noncomputable def tt178:=nt 178 ty178 tt172 tt212
theorem tt178a:AT tt178:=at_ (by kernel_rfl) tt172a tt212a
noncomputable def tt169:=nt 169 ty169 tt162 tt178
theorem tt169a:AT tt169:=at_ (by kernel_rfl) tt162a tt178a
noncomputable def tt151:=nt 151 ty151 tt136 tt169
theorem tt151a:AT tt151:=at_ (by kernel_rfl) tt136a tt169a
noncomputable def tt230:=nt 230 ty230 lt lt
theorem tt230a:AT tt230:=at_ (by kernel_rfl) trivial trivial
noncomputable def tt237:=nt 237 ty237 tt230 lt
theorem tt237a:AT tt237:=at_ (by kernel_rfl) tt230a trivial
noncomputable def tt243:=nt 243 ty243 lt lt
theorem tt243a:AT tt243:=at_ (by kernel_rfl) trivial trivial
noncomputable def tt241:=nt 241 ty241 tt237 tt243
theorem tt241a:AT tt241:=at_ (by kernel_rfl) tt237a tt243a
noncomputable def tt253:=nt 253 ty253 lt lt
theorem tt253a:AT tt253:=at_ (by kernel_rfl) trivial trivial
noncomputable def tt265:=nt 265 ty265 tt253 lt
theorem tt265a:AT tt265:=at_ (by kernel_rfl) tt253a trivial
noncomputable def tt303:=nt 303 ty303 lt lt
theorem tt303a:AT tt303:=at_ (by kernel_rfl) trivial trivial
noncomputable def tt299:=nt 299 ty299 tt265 tt303
theorem tt299a:AT tt299:=at_ (by kernel_rfl) tt265a tt303a
noncomputable def tt251:=nt 251 ty251 tt241 tt299
theorem tt251a:AT tt251:=at_ (by kernel_rfl) tt241a tt299a
noncomputable def tt305:=nt 305 ty305 lt lt
theorem tt305a:AT tt305:=at_ (by kernel_rfl) trivial trivial
noncomputable def tt307:=nt 307 ty307 tt305 lt
theorem tt307a:AT tt307:=at_ (by kernel_rfl) tt305a trivial
noncomputable def tt318:=nt 318 ty318 lt lt
theorem tt318a:AT tt318:=at_ (by kernel_rfl) trivial trivial
noncomputable def tt311:=nt 311 ty311 tt307 tt318
theorem tt311a:AT tt311:=at_ (by kernel_rfl) tt307a tt318a
noncomputable def tt323:=nt 323 ty323 lt lt
theorem tt323a:AT tt323:=at_ (by kernel_rfl) trivial trivial
noncomputable def tt366:=nt 366 ty366 lt lt
theorem tt366a:AT tt366:=at_ (by kernel_rfl) trivial trivial
noncomputable def tt326:=nt 326 ty326 tt323 tt366
theorem tt326a:AT tt326:=at_ (by kernel_rfl) tt323a tt366a
noncomputable def tt322:=nt 322 ty322 tt311 tt326
theorem tt322a:AT tt322:=at_ (by kernel_rfl) tt311a tt326a
noncomputable def tt304:=nt 304 ty304 tt251 tt322
theorem tt304a:AT tt304:=at_ (by kernel_rfl) tt251a tt322a
noncomputable def tt217:=nt 217 ty217 tt151 tt304
theorem tt217a:AT tt217:=at_ (by kernel_rfl) tt151a tt304a
noncomputable def tt110:=nt 110 ty110 tt38 tt217
theorem tt110a:AT tt110:=at_ (by kernel_rfl) tt38a tt217a
noncomputable def tf3:=nf 3 Tryz.f3 lf lf
theorem tf3a:AF tf3:=af_ Tryz.func3 (by kernel_rfl) trivial trivial
noncomputable def tf4:=nf 4 Tryz.f4 tf3 lf
theorem tf4a:AF tf4:=af_ Tryz.func4 (by kernel_rfl) tf3a trivial
noncomputable def tf6:=nf 6 Tryz.f6 lf lf
theorem tf6a:AF tf6:=af_ Tryz.func6 (by kernel_rfl) trivial trivial
noncomputable def tf7:=nf 7 Tryz.f7 tf6 lf
theorem tf7a:AF tf7:=af_ Tryz.func7 (by kernel_rfl) tf6a trivial
noncomputable def tf5:=nf 5 Tryz.f5 tf4 tf7
theorem tf5a:AF tf5:=af_ Tryz.func5 (by kernel_rfl) tf4a tf7a
noncomputable def tf9:=nf 9 Tryz.f9 lf lf
theorem tf9a:AF tf9:=af_ Tryz.func9 (by kernel_rfl) trivial trivial
noncomputable def tf10:=nf 10 Tryz.f10 tf9 lf
theorem tf10a:AF tf10:=af_ Tryz.func10 (by kernel_rfl) tf9a trivial
noncomputable def tf12:=nf 12 Tryz.f12 lf lf
theorem tf12a:AF tf12:=af_ Tryz.func12 (by kernel_rfl) trivial trivial
noncomputable def tf13:=nf 13 Tryz.f13 tf12 lf
theorem tf13a:AF tf13:=af_ Tryz.func13 (by kernel_rfl) tf12a trivial
noncomputable def tf11:=nf 11 Tryz.f11 tf10 tf13
theorem tf11a:AF tf11:=af_ Tryz.func11 (by kernel_rfl) tf10a tf13a
noncomputable def tf8:=nf 8 Tryz.f8 tf5 tf11
theorem tf8a:AF tf8:=af_ Tryz.func8 (by kernel_rfl) tf5a tf11a
noncomputable def tf15:=nf 15 Tryz.f15 lf lf
theorem tf15a:AF tf15:=af_ Tryz.func15 (by kernel_rfl) trivial trivial
noncomputable def tf16:=nf 16 Tryz.f16 tf15 lf
theorem tf16a:AF tf16:=af_ Tryz.func16 (by kernel_rfl) tf15a trivial
noncomputable def tf18:=nf 18 Tryz.f18 lf lf
theorem tf18a:AF tf18:=af_ Tryz.func18 (by kernel_rfl) trivial trivial
noncomputable def tf19:=nf 19 Tryz.f19 tf18 lf
theorem tf19a:AF tf19:=af_ Tryz.func19 (by kernel_rfl) tf18a trivial
noncomputable def tf17:=nf 17 Tryz.f17 tf16 tf19
theorem tf17a:AF tf17:=af_ Tryz.func17 (by kernel_rfl) tf16a tf19a
noncomputable def tf21:=nf 21 Tryz.f21 lf lf
theorem tf21a:AF tf21:=af_ Tryz.func21 (by kernel_rfl) trivial trivial
noncomputable def tf22:=nf 22 Tryz.f22 tf21 lf
theorem tf22a:AF tf22:=af_ Tryz.func22 (by kernel_rfl) tf21a trivial
noncomputable def tf24:=nf 24 Tryz.f24 lf lf
theorem tf24a:AF tf24:=af_ Tryz.func24 (by kernel_rfl) trivial trivial
noncomputable def tf23:=nf 23 Tryz.f23 tf22 tf24
theorem tf23a:AF tf23:=af_ Tryz.func23 (by kernel_rfl) tf22a tf24a
noncomputable def tf20:=nf 20 Tryz.f20 tf17 tf23
theorem tf20a:AF tf20:=af_ Tryz.func20 (by kernel_rfl) tf17a tf23a
noncomputable def tf14:=nf 14 Tryz.f14 tf8 tf20
theorem tf14a:AF tf14:=af_ Tryz.func14 (by kernel_rfl) tf8a tf20a
noncomputable def tf26:=nf 26 Tryz.f26 lf lf
theorem tf26a:AF tf26:=af_ Tryz.func26 (by kernel_rfl) trivial trivial
noncomputable def tf27:=nf 27 Tryz.f27 tf26 lf
theorem tf27a:AF tf27:=af_ Tryz.func27 (by kernel_rfl) tf26a trivial
noncomputable def tf29:=nf 29 Tryz.f29 lf lf
theorem tf29a:AF tf29:=af_ Tryz.func29 (by kernel_rfl) trivial trivial
noncomputable def tf30:=nf 30 Tryz.f30 tf29 lf
theorem tf30a:AF tf30:=af_ Tryz.func30 (by kernel_rfl) tf29a trivial
noncomputable def tf28:=nf 28 Tryz.f28 tf27 tf30
theorem tf28a:AF tf28:=af_ Tryz.func28 (by kernel_rfl) tf27a tf30a
noncomputable def tf32:=nf 32 Tryz.f32 lf lf
theorem tf32a:AF tf32:=af_ Tryz.func32 (by kernel_rfl) trivial trivial
noncomputable def tf33:=nf 33 Tryz.f33 tf32 lf
theorem tf33a:AF tf33:=af_ Tryz.func33 (by kernel_rfl) tf32a trivial
noncomputable def tf35:=nf 35 Tryz.f35 lf lf
theorem tf35a:AF tf35:=af_ Tryz.func35 (by kernel_rfl) trivial trivial
noncomputable def tf36:=nf 36 Tryz.f36 tf35 lf
theorem tf36a:AF tf36:=af_ Tryz.func36 (by kernel_rfl) tf35a trivial
noncomputable def tf34:=nf 34 Tryz.f34 tf33 tf36
theorem tf34a:AF tf34:=af_ Tryz.func34 (by kernel_rfl) tf33a tf36a
noncomputable def tf31:=nf 31 Tryz.f31 tf28 tf34
theorem tf31a:AF tf31:=af_ Tryz.func31 (by kernel_rfl) tf28a tf34a
noncomputable def tf38:=nf 38 Tryz.f38 lf lf
theorem tf38a:AF tf38:=af_ Tryz.func38 (by kernel_rfl) trivial trivial
noncomputable def tf39:=nf 39 Tryz.f39 tf38 lf
theorem tf39a:AF tf39:=af_ Tryz.func39 (by kernel_rfl) tf38a trivial
noncomputable def tf41:=nf 41 Tryz.f41 lf lf
theorem tf41a:AF tf41:=af_ Tryz.func41 (by kernel_rfl) trivial trivial
noncomputable def tf42:=nf 42 Tryz.f42 tf41 lf
theorem tf42a:AF tf42:=af_ Tryz.func42 (by kernel_rfl) tf41a trivial
noncomputable def tf40:=nf 40 Tryz.f40 tf39 tf42
theorem tf40a:AF tf40:=af_ Tryz.func40 (by kernel_rfl) tf39a tf42a
noncomputable def tf44:=nf 44 Tryz.f44 lf lf
theorem tf44a:AF tf44:=af_ Tryz.func44 (by kernel_rfl) trivial trivial
noncomputable def tf45:=nf 45 Tryz.f45 tf44 lf
theorem tf45a:AF tf45:=af_ Tryz.func45 (by kernel_rfl) tf44a trivial
noncomputable def tf47:=nf 47 Tryz.f47 lf lf
theorem tf47a:AF tf47:=af_ Tryz.func47 (by kernel_rfl) trivial trivial
noncomputable def tf46:=nf 46 Tryz.f46 tf45 tf47
theorem tf46a:AF tf46:=af_ Tryz.func46 (by kernel_rfl) tf45a tf47a
noncomputable def tf43:=nf 43 Tryz.f43 tf40 tf46
theorem tf43a:AF tf43:=af_ Tryz.func43 (by kernel_rfl) tf40a tf46a
noncomputable def tf37:=nf 37 Tryz.f37 tf31 tf43
theorem tf37a:AF tf37:=af_ Tryz.func37 (by kernel_rfl) tf31a tf43a
noncomputable def tf25:=nf 25 Tryz.f25 tf14 tf37
theorem tf25a:AF tf25:=af_ Tryz.func25 (by kernel_rfl) tf14a tf37a
noncomputable def tf49:=nf 49 Tryz.f49 lf lf
theorem tf49a:AF tf49:=af_ Tryz.func49 (by kernel_rfl) trivial trivial
noncomputable def tf50:=nf 50 Tryz.f50 tf49 lf
theorem tf50a:AF tf50:=af_ Tryz.func50 (by kernel_rfl) tf49a trivial
noncomputable def tf52:=nf 52 Tryz.f52 lf lf
theorem tf52a:AF tf52:=af_ Tryz.func52 (by kernel_rfl) trivial trivial
noncomputable def tf53:=nf 53 Tryz.f53 tf52 lf
theorem tf53a:AF tf53:=af_ Tryz.func53 (by kernel_rfl) tf52a trivial
noncomputable def tf51:=nf 51 Tryz.f51 tf50 tf53
theorem tf51a:AF tf51:=af_ Tryz.func51 (by kernel_rfl) tf50a tf53a
noncomputable def tf55:=nf 55 Tryz.f55 lf lf
theorem tf55a:AF tf55:=af_ Tryz.func55 (by kernel_rfl) trivial trivial
noncomputable def tf56:=nf 56 Tryz.f56 tf55 lf
theorem tf56a:AF tf56:=af_ Tryz.func56 (by kernel_rfl) tf55a trivial
noncomputable def tf58:=nf 58 Tryz.f58 lf lf
theorem tf58a:AF tf58:=af_ Tryz.func58 (by kernel_rfl) trivial trivial
noncomputable def tf59:=nf 59 Tryz.f59 tf58 lf
theorem tf59a:AF tf59:=af_ Tryz.func59 (by kernel_rfl) tf58a trivial
noncomputable def tf57:=nf 57 Tryz.f57 tf56 tf59
theorem tf57a:AF tf57:=af_ Tryz.func57 (by kernel_rfl) tf56a tf59a
noncomputable def tf54:=nf 54 Tryz.f54 tf51 tf57
theorem tf54a:AF tf54:=af_ Tryz.func54 (by kernel_rfl) tf51a tf57a
noncomputable def tf61:=nf 61 Tryz.f61 lf lf
theorem tf61a:AF tf61:=af_ Tryz.func61 (by kernel_rfl) trivial trivial
noncomputable def tf62:=nf 62 Tryz.f62 tf61 lf
theorem tf62a:AF tf62:=af_ Tryz.func62 (by kernel_rfl) tf61a trivial
noncomputable def tf64:=nf 64 Tryz.f64 lf lf
theorem tf64a:AF tf64:=af_ Tryz.func64 (by kernel_rfl) trivial trivial
noncomputable def tf65:=nf 65 Tryz.f65 tf64 lf
theorem tf65a:AF tf65:=af_ Tryz.func65 (by kernel_rfl) tf64a trivial
noncomputable def tf63:=nf 63 Tryz.f63 tf62 tf65
theorem tf63a:AF tf63:=af_ Tryz.func63 (by kernel_rfl) tf62a tf65a
noncomputable def tf67:=nf 67 Tryz.f67 lf lf
theorem tf67a:AF tf67:=af_ Tryz.func67 (by kernel_rfl) trivial trivial
noncomputable def tf68:=nf 68 Tryz.f68 tf67 lf
theorem tf68a:AF tf68:=af_ Tryz.func68 (by kernel_rfl) tf67a trivial
noncomputable def tf70:=nf 70 Tryz.f70 lf lf
theorem tf70a:AF tf70:=af_ Tryz.func70 (by kernel_rfl) trivial trivial
noncomputable def tf69:=nf 69 Tryz.f69 tf68 tf70
theorem tf69a:AF tf69:=af_ Tryz.func69 (by kernel_rfl) tf68a tf70a
noncomputable def tf66:=nf 66 Tryz.f66 tf63 tf69
theorem tf66a:AF tf66:=af_ Tryz.func66 (by kernel_rfl) tf63a tf69a
noncomputable def tf60:=nf 60 Tryz.f60 tf54 tf66
theorem tf60a:AF tf60:=af_ Tryz.func60 (by kernel_rfl) tf54a tf66a
noncomputable def tf72:=nf 72 Tryz.f72 lf lf
theorem tf72a:AF tf72:=af_ Tryz.func72 (by kernel_rfl) trivial trivial
noncomputable def tf73:=nf 73 Tryz.f73 tf72 lf
theorem tf73a:AF tf73:=af_ Tryz.func73 (by kernel_rfl) tf72a trivial
noncomputable def tf75:=nf 75 Tryz.f75 lf lf
theorem tf75a:AF tf75:=af_ Tryz.func75 (by kernel_rfl) trivial trivial
noncomputable def tf76:=nf 76 Tryz.f76 tf75 lf
theorem tf76a:AF tf76:=af_ Tryz.func76 (by kernel_rfl) tf75a trivial
noncomputable def tf74:=nf 74 Tryz.f74 tf73 tf76
theorem tf74a:AF tf74:=af_ Tryz.func74 (by kernel_rfl) tf73a tf76a
noncomputable def tf78:=nf 78 Tryz.f78 lf lf
theorem tf78a:AF tf78:=af_ Tryz.func78 (by kernel_rfl) trivial trivial
noncomputable def tf79:=nf 79 Tryz.f79 tf78 lf
theorem tf79a:AF tf79:=af_ Tryz.func79 (by kernel_rfl) tf78a trivial
noncomputable def tf81:=nf 81 Tryz.f81 lf lf
theorem tf81a:AF tf81:=af_ Tryz.func81 (by kernel_rfl) trivial trivial
noncomputable def tf82:=nf 82 Tryz.f82 tf81 lf
theorem tf82a:AF tf82:=af_ Tryz.func82 (by kernel_rfl) tf81a trivial
noncomputable def tf80:=nf 80 Tryz.f80 tf79 tf82
theorem tf80a:AF tf80:=af_ Tryz.func80 (by kernel_rfl) tf79a tf82a
noncomputable def tf77:=nf 77 Tryz.f77 tf74 tf80
theorem tf77a:AF tf77:=af_ Tryz.func77 (by kernel_rfl) tf74a tf80a
noncomputable def tf84:=nf 84 Tryz.f84 lf lf
theorem tf84a:AF tf84:=af_ Tryz.func84 (by kernel_rfl) trivial trivial
noncomputable def tf85:=nf 85 Tryz.f85 tf84 lf
theorem tf85a:AF tf85:=af_ Tryz.func85 (by kernel_rfl) tf84a trivial
noncomputable def tf87:=nf 87 Tryz.f87 lf lf
theorem tf87a:AF tf87:=af_ Tryz.func87 (by kernel_rfl) trivial trivial
noncomputable def tf88:=nf 88 Tryz.f88 tf87 lf
theorem tf88a:AF tf88:=af_ Tryz.func88 (by kernel_rfl) tf87a trivial
noncomputable def tf86:=nf 86 Tryz.f86 tf85 tf88
theorem tf86a:AF tf86:=af_ Tryz.func86 (by kernel_rfl) tf85a tf88a
noncomputable def tf90:=nf 90 Tryz.f90 lf lf
theorem tf90a:AF tf90:=af_ Tryz.func90 (by kernel_rfl) trivial trivial
noncomputable def tf91:=nf 91 Tryz.f91 tf90 lf
theorem tf91a:AF tf91:=af_ Tryz.func91 (by kernel_rfl) tf90a trivial
noncomputable def tf93:=nf 93 Tryz.f93 lf lf
theorem tf93a:AF tf93:=af_ Tryz.func93 (by kernel_rfl) trivial trivial
noncomputable def tf92:=nf 92 Tryz.f92 tf91 tf93
theorem tf92a:AF tf92:=af_ Tryz.func92 (by kernel_rfl) tf91a tf93a
noncomputable def tf89:=nf 89 Tryz.f89 tf86 tf92
theorem tf89a:AF tf89:=af_ Tryz.func89 (by kernel_rfl) tf86a tf92a
noncomputable def tf83:=nf 83 Tryz.f83 tf77 tf89
theorem tf83a:AF tf83:=af_ Tryz.func83 (by kernel_rfl) tf77a tf89a
noncomputable def tf71:=nf 71 Tryz.f71 tf60 tf83
theorem tf71a:AF tf71:=af_ Tryz.func71 (by kernel_rfl) tf60a tf83a
noncomputable def tf48:=nf 48 Tryz.f48 tf25 tf71
theorem tf48a:AF tf48:=af_ Tryz.func48 (by kernel_rfl) tf25a tf71a
noncomputable def tf95:=nf 95 Tryz.f95 lf lf
theorem tf95a:AF tf95:=af_ Tryz.func95 (by kernel_rfl) trivial trivial
noncomputable def tf96:=nf 96 Tryz.f96 tf95 lf
theorem tf96a:AF tf96:=af_ Tryz.func96 (by kernel_rfl) tf95a trivial
noncomputable def tf98:=nf 98 Tryz.f98 lf lf
theorem tf98a:AF tf98:=af_ Tryz.func98 (by kernel_rfl) trivial trivial
noncomputable def tf99:=nf 99 Tryz.f99 tf98 lf
theorem tf99a:AF tf99:=af_ Tryz.func99 (by kernel_rfl) tf98a trivial
noncomputable def tf97:=nf 97 Tryz.f97 tf96 tf99
theorem tf97a:AF tf97:=af_ Tryz.func97 (by kernel_rfl) tf96a tf99a
noncomputable def tf101:=nf 101 Tryz.f101 lf lf
theorem tf101a:AF tf101:=af_ Tryz.func101 (by kernel_rfl) trivial trivial
noncomputable def tf102:=nf 102 Tryz.f102 tf101 lf
theorem tf102a:AF tf102:=af_ Tryz.func102 (by kernel_rfl) tf101a trivial
noncomputable def tf104:=nf 104 Tryz.f104 lf lf
theorem tf104a:AF tf104:=af_ Tryz.func104 (by kernel_rfl) trivial trivial
noncomputable def tf105:=nf 105 Tryz.f105 tf104 lf
theorem tf105a:AF tf105:=af_ Tryz.func105 (by kernel_rfl) tf104a trivial
noncomputable def tf103:=nf 103 Tryz.f103 tf102 tf105
theorem tf103a:AF tf103:=af_ Tryz.func103 (by kernel_rfl) tf102a tf105a
noncomputable def tf100:=nf 100 Tryz.f100 tf97 tf103
theorem tf100a:AF tf100:=af_ Tryz.func100 (by kernel_rfl) tf97a tf103a
noncomputable def tf107:=nf 107 Tryz.f107 lf lf
theorem tf107a:AF tf107:=af_ Tryz.func107 (by kernel_rfl) trivial trivial
noncomputable def tf108:=nf 108 Tryz.f108 tf107 lf
theorem tf108a:AF tf108:=af_ Tryz.func108 (by kernel_rfl) tf107a trivial
noncomputable def tf110:=nf 110 Tryz.f110 lf lf
theorem tf110a:AF tf110:=af_ Tryz.func110 (by kernel_rfl) trivial trivial
noncomputable def tf111:=nf 111 Tryz.f111 tf110 lf
theorem tf111a:AF tf111:=af_ Tryz.func111 (by kernel_rfl) tf110a trivial
noncomputable def tf109:=nf 109 Tryz.f109 tf108 tf111
theorem tf109a:AF tf109:=af_ Tryz.func109 (by kernel_rfl) tf108a tf111a
noncomputable def tf113:=nf 113 Tryz.f113 lf lf
theorem tf113a:AF tf113:=af_ Tryz.func113 (by kernel_rfl) trivial trivial
noncomputable def tf114:=nf 114 Tryz.f114 tf113 lf
theorem tf114a:AF tf114:=af_ Tryz.func114 (by kernel_rfl) tf113a trivial
noncomputable def tf116:=nf 116 Tryz.f116 lf lf
theorem tf116a:AF tf116:=af_ Tryz.func116 (by kernel_rfl) trivial trivial
noncomputable def tf115:=nf 115 Tryz.f115 tf114 tf116
theorem tf115a:AF tf115:=af_ Tryz.func115 (by kernel_rfl) tf114a tf116a
noncomputable def tf112:=nf 112 Tryz.f112 tf109 tf115
theorem tf112a:AF tf112:=af_ Tryz.func112 (by kernel_rfl) tf109a tf115a
noncomputable def tf106:=nf 106 Tryz.f106 tf100 tf112
theorem tf106a:AF tf106:=af_ Tryz.func106 (by kernel_rfl) tf100a tf112a
noncomputable def tf118:=nf 118 Tryz.f118 lf lf
theorem tf118a:AF tf118:=af_ Tryz.func118 (by kernel_rfl) trivial trivial
noncomputable def tf119:=nf 119 Tryz.f119 tf118 lf
theorem tf119a:AF tf119:=af_ Tryz.func119 (by kernel_rfl) tf118a trivial
noncomputable def tf121:=nf 121 Tryz.f121 lf lf
theorem tf121a:AF tf121:=af_ Tryz.func121 (by kernel_rfl) trivial trivial
noncomputable def tf122:=nf 122 Tryz.f122 tf121 lf
theorem tf122a:AF tf122:=af_ Tryz.func122 (by kernel_rfl) tf121a trivial
noncomputable def tf120:=nf 120 Tryz.f120 tf119 tf122
theorem tf120a:AF tf120:=af_ Tryz.func120 (by kernel_rfl) tf119a tf122a
noncomputable def tf124:=nf 124 Tryz.f124 lf lf
theorem tf124a:AF tf124:=af_ Tryz.func124 (by kernel_rfl) trivial trivial
noncomputable def tf125:=nf 125 Tryz.f125 tf124 lf
theorem tf125a:AF tf125:=af_ Tryz.func125 (by kernel_rfl) tf124a trivial
noncomputable def tf127:=nf 127 Tryz.f127 lf lf
theorem tf127a:AF tf127:=af_ Tryz.func127 (by kernel_rfl) trivial trivial
noncomputable def tf128:=nf 128 Tryz.f128 tf127 lf
theorem tf128a:AF tf128:=af_ Tryz.func128 (by kernel_rfl) tf127a trivial
noncomputable def tf126:=nf 126 Tryz.f126 tf125 tf128
theorem tf126a:AF tf126:=af_ Tryz.func126 (by kernel_rfl) tf125a tf128a
noncomputable def tf123:=nf 123 Tryz.f123 tf120 tf126
theorem tf123a:AF tf123:=af_ Tryz.func123 (by kernel_rfl) tf120a tf126a
noncomputable def tf130:=nf 130 Tryz.f130 lf lf
theorem tf130a:AF tf130:=af_ Tryz.func130 (by kernel_rfl) trivial trivial
noncomputable def tf131:=nf 131 Tryz.f131 tf130 lf
theorem tf131a:AF tf131:=af_ Tryz.func131 (by kernel_rfl) tf130a trivial
noncomputable def tf133:=nf 133 Tryz.f133 lf lf
theorem tf133a:AF tf133:=af_ Tryz.func133 (by kernel_rfl) trivial trivial
noncomputable def tf134:=nf 134 Tryz.f134 tf133 lf
theorem tf134a:AF tf134:=af_ Tryz.func134 (by kernel_rfl) tf133a trivial
noncomputable def tf132:=nf 132 Tryz.f132 tf131 tf134
theorem tf132a:AF tf132:=af_ Tryz.func132 (by kernel_rfl) tf131a tf134a
noncomputable def tf136:=nf 136 Tryz.f136 lf lf
theorem tf136a:AF tf136:=af_ Tryz.func136 (by kernel_rfl) trivial trivial
noncomputable def tf137:=nf 137 Tryz.f137 tf136 lf
theorem tf137a:AF tf137:=af_ Tryz.func137 (by kernel_rfl) tf136a trivial
noncomputable def tf139:=nf 139 Tryz.f139 lf lf
theorem tf139a:AF tf139:=af_ Tryz.func139 (by kernel_rfl) trivial trivial
noncomputable def tf138:=nf 138 Tryz.f138 tf137 tf139
theorem tf138a:AF tf138:=af_ Tryz.func138 (by kernel_rfl) tf137a tf139a
noncomputable def tf135:=nf 135 Tryz.f135 tf132 tf138
theorem tf135a:AF tf135:=af_ Tryz.func135 (by kernel_rfl) tf132a tf138a
noncomputable def tf129:=nf 129 Tryz.f129 tf123 tf135
theorem tf129a:AF tf129:=af_ Tryz.func129 (by kernel_rfl) tf123a tf135a
noncomputable def tf117:=nf 117 Tryz.f117 tf106 tf129
theorem tf117a:AF tf117:=af_ Tryz.func117 (by kernel_rfl) tf106a tf129a
noncomputable def tf141:=nf 141 Tryz.f141 lf lf
theorem tf141a:AF tf141:=af_ Tryz.func141 (by kernel_rfl) trivial trivial
noncomputable def tf142:=nf 142 Tryz.f142 tf141 lf
theorem tf142a:AF tf142:=af_ Tryz.func142 (by kernel_rfl) tf141a trivial
noncomputable def tf144:=nf 144 Tryz.f144 lf lf
theorem tf144a:AF tf144:=af_ Tryz.func144 (by kernel_rfl) trivial trivial
noncomputable def tf145:=nf 145 Tryz.f145 tf144 lf
theorem tf145a:AF tf145:=af_ Tryz.func145 (by kernel_rfl) tf144a trivial
noncomputable def tf143:=nf 143 Tryz.f143 tf142 tf145
theorem tf143a:AF tf143:=af_ Tryz.func143 (by kernel_rfl) tf142a tf145a
noncomputable def tf147:=nf 147 Tryz.f147 lf lf
theorem tf147a:AF tf147:=af_ Tryz.func147 (by kernel_rfl) trivial trivial
noncomputable def tf148:=nf 148 Tryz.f148 tf147 lf
theorem tf148a:AF tf148:=af_ Tryz.func148 (by kernel_rfl) tf147a trivial
noncomputable def tf150:=nf 150 Tryz.f150 lf lf
theorem tf150a:AF tf150:=af_ Tryz.func150 (by kernel_rfl) trivial trivial
noncomputable def tf151:=nf 151 Tryz.f151 tf150 lf
theorem tf151a:AF tf151:=af_ Tryz.func151 (by kernel_rfl) tf150a trivial
noncomputable def tf149:=nf 149 Tryz.f149 tf148 tf151
theorem tf149a:AF tf149:=af_ Tryz.func149 (by kernel_rfl) tf148a tf151a
noncomputable def tf146:=nf 146 Tryz.f146 tf143 tf149
theorem tf146a:AF tf146:=af_ Tryz.func146 (by kernel_rfl) tf143a tf149a
noncomputable def tf153:=nf 153 Tryz.f153 lf lf
theorem tf153a:AF tf153:=af_ Tryz.func153 (by kernel_rfl) trivial trivial
noncomputable def tf154:=nf 154 Tryz.f154 tf153 lf
theorem tf154a:AF tf154:=af_ Tryz.func154 (by kernel_rfl) tf153a trivial
noncomputable def tf156:=nf 156 Tryz.f156 lf lf
theorem tf156a:AF tf156:=af_ Tryz.func156 (by kernel_rfl) trivial trivial
noncomputable def tf157:=nf 157 Tryz.f157 tf156 lf
theorem tf157a:AF tf157:=af_ Tryz.func157 (by kernel_rfl) tf156a trivial
noncomputable def tf155:=nf 155 Tryz.f155 tf154 tf157
theorem tf155a:AF tf155:=af_ Tryz.func155 (by kernel_rfl) tf154a tf157a
noncomputable def tf159:=nf 159 Tryz.f159 lf lf
theorem tf159a:AF tf159:=af_ Tryz.func159 (by kernel_rfl) trivial trivial
noncomputable def tf160:=nf 160 Tryz.f160 tf159 lf
theorem tf160a:AF tf160:=af_ Tryz.func160 (by kernel_rfl) tf159a trivial
noncomputable def tf162:=nf 162 Tryz.f162 lf lf
theorem tf162a:AF tf162:=af_ Tryz.func162 (by kernel_rfl) trivial trivial
noncomputable def tf161:=nf 161 Tryz.f161 tf160 tf162
theorem tf161a:AF tf161:=af_ Tryz.func161 (by kernel_rfl) tf160a tf162a
noncomputable def tf158:=nf 158 Tryz.f158 tf155 tf161
theorem tf158a:AF tf158:=af_ Tryz.func158 (by kernel_rfl) tf155a tf161a
noncomputable def tf152:=nf 152 Tryz.f152 tf146 tf158
theorem tf152a:AF tf152:=af_ Tryz.func152 (by kernel_rfl) tf146a tf158a
noncomputable def tf164:=nf 164 Tryz.f164 lf lf
theorem tf164a:AF tf164:=af_ Tryz.func164 (by kernel_rfl) trivial trivial
noncomputable def tf165:=nf 165 Tryz.f165 tf164 lf
theorem tf165a:AF tf165:=af_ Tryz.func165 (by kernel_rfl) tf164a trivial
noncomputable def tf167:=nf 167 Tryz.f167 lf lf
theorem tf167a:AF tf167:=af_ Tryz.func167 (by kernel_rfl) trivial trivial
noncomputable def tf168:=nf 168 Tryz.f168 tf167 lf
theorem tf168a:AF tf168:=af_ Tryz.func168 (by kernel_rfl) tf167a trivial
noncomputable def tf166:=nf 166 Tryz.f166 tf165 tf168
theorem tf166a:AF tf166:=af_ Tryz.func166 (by kernel_rfl) tf165a tf168a
noncomputable def tf170:=nf 170 Tryz.f170 lf lf
theorem tf170a:AF tf170:=af_ Tryz.func170 (by kernel_rfl) trivial trivial
noncomputable def tf171:=nf 171 Tryz.f171 tf170 lf
theorem tf171a:AF tf171:=af_ Tryz.func171 (by kernel_rfl) tf170a trivial
noncomputable def tf173:=nf 173 Tryz.f173 lf lf
theorem tf173a:AF tf173:=af_ Tryz.func173 (by kernel_rfl) trivial trivial
noncomputable def tf172:=nf 172 Tryz.f172 tf171 tf173
theorem tf172a:AF tf172:=af_ Tryz.func172 (by kernel_rfl) tf171a tf173a
noncomputable def tf169:=nf 169 Tryz.f169 tf166 tf172
theorem tf169a:AF tf169:=af_ Tryz.func169 (by kernel_rfl) tf166a tf172a
noncomputable def tf175:=nf 175 Tryz.f175 lf lf
theorem tf175a:AF tf175:=af_ Tryz.func175 (by kernel_rfl) trivial trivial
noncomputable def tf176:=nf 176 Tryz.f176 tf175 lf
theorem tf176a:AF tf176:=af_ Tryz.func176 (by kernel_rfl) tf175a trivial
noncomputable def tf178:=nf 178 Tryz.f178 lf lf
theorem tf178a:AF tf178:=af_ Tryz.func178 (by kernel_rfl) trivial trivial
noncomputable def tf179:=nf 179 Tryz.f179 tf178 lf
theorem tf179a:AF tf179:=af_ Tryz.func179 (by kernel_rfl) tf178a trivial
noncomputable def tf177:=nf 177 Tryz.f177 tf176 tf179
theorem tf177a:AF tf177:=af_ Tryz.func177 (by kernel_rfl) tf176a tf179a
noncomputable def tf181:=nf 181 Tryz.f181 lf lf
theorem tf181a:AF tf181:=af_ Tryz.func181 (by kernel_rfl) trivial trivial
noncomputable def tf182:=nf 182 Tryz.f182 tf181 lf
theorem tf182a:AF tf182:=af_ Tryz.func182 (by kernel_rfl) tf181a trivial
noncomputable def tf184:=nf 184 Tryz.f184 lf lf
theorem tf184a:AF tf184:=af_ Tryz.func184 (by kernel_rfl) trivial trivial
noncomputable def tf183:=nf 183 Tryz.f183 tf182 tf184
theorem tf183a:AF tf183:=af_ Tryz.func183 (by kernel_rfl) tf182a tf184a
noncomputable def tf180:=nf 180 Tryz.f180 tf177 tf183
theorem tf180a:AF tf180:=af_ Tryz.func180 (by kernel_rfl) tf177a tf183a
noncomputable def tf174:=nf 174 Tryz.f174 tf169 tf180
theorem tf174a:AF tf174:=af_ Tryz.func174 (by kernel_rfl) tf169a tf180a
noncomputable def tf163:=nf 163 Tryz.f163 tf152 tf174
theorem tf163a:AF tf163:=af_ Tryz.func163 (by kernel_rfl) tf152a tf174a
noncomputable def tf140:=nf 140 Tryz.f140 tf117 tf163
theorem tf140a:AF tf140:=af_ Tryz.func140 (by kernel_rfl) tf117a tf163a
noncomputable def tf94:=nf 94 Tryz.f94 tf48 tf140
theorem tf94a:AF tf94:=af_ Tryz.func94 (by kernel_rfl) tf48a tf140a
noncomputable def tf186:=nf 186 Tryz.f186 lf lf
theorem tf186a:AF tf186:=af_ Tryz.func186 (by kernel_rfl) trivial trivial
noncomputable def tf187:=nf 187 Tryz.f187 tf186 lf
theorem tf187a:AF tf187:=af_ Tryz.func187 (by kernel_rfl) tf186a trivial
noncomputable def tf189:=nf 189 Tryz.f189 lf lf
theorem tf189a:AF tf189:=af_ Tryz.func189 (by kernel_rfl) trivial trivial
noncomputable def tf190:=nf 190 Tryz.f190 tf189 lf
theorem tf190a:AF tf190:=af_ Tryz.func190 (by kernel_rfl) tf189a trivial
noncomputable def tf188:=nf 188 Tryz.f188 tf187 tf190
theorem tf188a:AF tf188:=af_ Tryz.func188 (by kernel_rfl) tf187a tf190a
noncomputable def tf192:=nf 192 Tryz.f192 lf lf
theorem tf192a:AF tf192:=af_ Tryz.func192 (by kernel_rfl) trivial trivial
noncomputable def tf193:=nf 193 Tryz.f193 tf192 lf
theorem tf193a:AF tf193:=af_ Tryz.func193 (by kernel_rfl) tf192a trivial
noncomputable def tf195:=nf 195 Tryz.f195 lf lf
theorem tf195a:AF tf195:=af_ Tryz.func195 (by kernel_rfl) trivial trivial
noncomputable def tf196:=nf 196 Tryz.f196 tf195 lf
theorem tf196a:AF tf196:=af_ Tryz.func196 (by kernel_rfl) tf195a trivial
noncomputable def tf194:=nf 194 Tryz.f194 tf193 tf196
theorem tf194a:AF tf194:=af_ Tryz.func194 (by kernel_rfl) tf193a tf196a
noncomputable def tf191:=nf 191 Tryz.f191 tf188 tf194
theorem tf191a:AF tf191:=af_ Tryz.func191 (by kernel_rfl) tf188a tf194a
noncomputable def tf198:=nf 198 Tryz.f198 lf lf
theorem tf198a:AF tf198:=af_ Tryz.func198 (by kernel_rfl) trivial trivial
noncomputable def tf199:=nf 199 Tryz.f199 tf198 lf
theorem tf199a:AF tf199:=af_ Tryz.func199 (by kernel_rfl) tf198a trivial
noncomputable def tf201:=nf 201 Tryz.f201 lf lf
theorem tf201a:AF tf201:=af_ Tryz.func201 (by kernel_rfl) trivial trivial
noncomputable def tf202:=nf 202 Tryz.f202 tf201 lf
theorem tf202a:AF tf202:=af_ Tryz.func202 (by kernel_rfl) tf201a trivial
noncomputable def tf200:=nf 200 Tryz.f200 tf199 tf202
theorem tf200a:AF tf200:=af_ Tryz.func200 (by kernel_rfl) tf199a tf202a
noncomputable def tf204:=nf 204 Tryz.f204 lf lf
theorem tf204a:AF tf204:=af_ Tryz.func204 (by kernel_rfl) trivial trivial
noncomputable def tf205:=nf 205 Tryz.f205 tf204 lf
theorem tf205a:AF tf205:=af_ Tryz.func205 (by kernel_rfl) tf204a trivial
noncomputable def tf207:=nf 207 Tryz.f207 lf lf
theorem tf207a:AF tf207:=af_ Tryz.func207 (by kernel_rfl) trivial trivial
noncomputable def tf206:=nf 206 Tryz.f206 tf205 tf207
theorem tf206a:AF tf206:=af_ Tryz.func206 (by kernel_rfl) tf205a tf207a
noncomputable def tf203:=nf 203 Tryz.f203 tf200 tf206
theorem tf203a:AF tf203:=af_ Tryz.func203 (by kernel_rfl) tf200a tf206a
noncomputable def tf197:=nf 197 Tryz.f197 tf191 tf203
theorem tf197a:AF tf197:=af_ Tryz.func197 (by kernel_rfl) tf191a tf203a
noncomputable def tf209:=nf 209 Tryz.f209 lf lf
theorem tf209a:AF tf209:=af_ Tryz.func209 (by kernel_rfl) trivial trivial
noncomputable def tf210:=nf 210 Tryz.f210 tf209 lf
theorem tf210a:AF tf210:=af_ Tryz.func210 (by kernel_rfl) tf209a trivial
noncomputable def tf212:=nf 212 Tryz.f212 lf lf
theorem tf212a:AF tf212:=af_ Tryz.func212 (by kernel_rfl) trivial trivial
noncomputable def tf213:=nf 213 Tryz.f213 tf212 lf
theorem tf213a:AF tf213:=af_ Tryz.func213 (by kernel_rfl) tf212a trivial
noncomputable def tf211:=nf 211 Tryz.f211 tf210 tf213
theorem tf211a:AF tf211:=af_ Tryz.func211 (by kernel_rfl) tf210a tf213a
noncomputable def tf215:=nf 215 Tryz.f215 lf lf
theorem tf215a:AF tf215:=af_ Tryz.func215 (by kernel_rfl) trivial trivial
noncomputable def tf216:=nf 216 Tryz.f216 tf215 lf
theorem tf216a:AF tf216:=af_ Tryz.func216 (by kernel_rfl) tf215a trivial
noncomputable def tf218:=nf 218 Tryz.f218 lf lf
theorem tf218a:AF tf218:=af_ Tryz.func218 (by kernel_rfl) trivial trivial
noncomputable def tf219:=nf 219 Tryz.f219 tf218 lf
theorem tf219a:AF tf219:=af_ Tryz.func219 (by kernel_rfl) tf218a trivial
noncomputable def tf217:=nf 217 Tryz.f217 tf216 tf219
theorem tf217a:AF tf217:=af_ Tryz.func217 (by kernel_rfl) tf216a tf219a
noncomputable def tf214:=nf 214 Tryz.f214 tf211 tf217
theorem tf214a:AF tf214:=af_ Tryz.func214 (by kernel_rfl) tf211a tf217a
noncomputable def tf221:=nf 221 Tryz.f221 lf lf
theorem tf221a:AF tf221:=af_ Tryz.func221 (by kernel_rfl) trivial trivial
noncomputable def tf222:=nf 222 Tryz.f222 tf221 lf
theorem tf222a:AF tf222:=af_ Tryz.func222 (by kernel_rfl) tf221a trivial
noncomputable def tf224:=nf 224 Tryz.f224 lf lf
theorem tf224a:AF tf224:=af_ Tryz.func224 (by kernel_rfl) trivial trivial
noncomputable def tf225:=nf 225 Tryz.f225 tf224 lf
theorem tf225a:AF tf225:=af_ Tryz.func225 (by kernel_rfl) tf224a trivial
noncomputable def tf223:=nf 223 Tryz.f223 tf222 tf225
theorem tf223a:AF tf223:=af_ Tryz.func223 (by kernel_rfl) tf222a tf225a
noncomputable def tf227:=nf 227 Tryz.f227 lf lf
theorem tf227a:AF tf227:=af_ Tryz.func227 (by kernel_rfl) trivial trivial
noncomputable def tf228:=nf 228 Tryz.f228 tf227 lf
theorem tf228a:AF tf228:=af_ Tryz.func228 (by kernel_rfl) tf227a trivial
noncomputable def tf230:=nf 230 Tryz.f230 lf lf
theorem tf230a:AF tf230:=af_ Tryz.func230 (by kernel_rfl) trivial trivial
noncomputable def tf229:=nf 229 Tryz.f229 tf228 tf230
theorem tf229a:AF tf229:=af_ Tryz.func229 (by kernel_rfl) tf228a tf230a
noncomputable def tf226:=nf 226 Tryz.f226 tf223 tf229
theorem tf226a:AF tf226:=af_ Tryz.func226 (by kernel_rfl) tf223a tf229a
noncomputable def tf220:=nf 220 Tryz.f220 tf214 tf226
theorem tf220a:AF tf220:=af_ Tryz.func220 (by kernel_rfl) tf214a tf226a
noncomputable def tf208:=nf 208 Tryz.f208 tf197 tf220
theorem tf208a:AF tf208:=af_ Tryz.func208 (by kernel_rfl) tf197a tf220a
noncomputable def tf232:=nf 232 Tryz.f232 lf lf
theorem tf232a:AF tf232:=af_ Tryz.func232 (by kernel_rfl) trivial trivial
noncomputable def tf233:=nf 233 Tryz.f233 tf232 lf
theorem tf233a:AF tf233:=af_ Tryz.func233 (by kernel_rfl) tf232a trivial
noncomputable def tf235:=nf 235 Tryz.f235 lf lf
theorem tf235a:AF tf235:=af_ Tryz.func235 (by kernel_rfl) trivial trivial
noncomputable def tf236:=nf 236 Tryz.f236 tf235 lf
theorem tf236a:AF tf236:=af_ Tryz.func236 (by kernel_rfl) tf235a trivial
noncomputable def tf234:=nf 234 Tryz.f234 tf233 tf236
theorem tf234a:AF tf234:=af_ Tryz.func234 (by kernel_rfl) tf233a tf236a
noncomputable def tf238:=nf 238 Tryz.f238 lf lf
theorem tf238a:AF tf238:=af_ Tryz.func238 (by kernel_rfl) trivial trivial
noncomputable def tf239:=nf 239 Tryz.f239 tf238 lf
theorem tf239a:AF tf239:=af_ Tryz.func239 (by kernel_rfl) tf238a trivial
noncomputable def tf241:=nf 241 Tryz.f241 lf lf
theorem tf241a:AF tf241:=af_ Tryz.func241 (by kernel_rfl) trivial trivial
noncomputable def tf242:=nf 242 Tryz.f242 tf241 lf
theorem tf242a:AF tf242:=af_ Tryz.func242 (by kernel_rfl) tf241a trivial
noncomputable def tf240:=nf 240 Tryz.f240 tf239 tf242
theorem tf240a:AF tf240:=af_ Tryz.func240 (by kernel_rfl) tf239a tf242a
noncomputable def tf237:=nf 237 Tryz.f237 tf234 tf240
theorem tf237a:AF tf237:=af_ Tryz.func237 (by kernel_rfl) tf234a tf240a
noncomputable def tf244:=nf 244 Tryz.f244 lf lf
theorem tf244a:AF tf244:=af_ Tryz.func244 (by kernel_rfl) trivial trivial
noncomputable def tf245:=nf 245 Tryz.f245 tf244 lf
theorem tf245a:AF tf245:=af_ Tryz.func245 (by kernel_rfl) tf244a trivial
noncomputable def tf247:=nf 247 Tryz.f247 lf lf
theorem tf247a:AF tf247:=af_ Tryz.func247 (by kernel_rfl) trivial trivial
noncomputable def tf248:=nf 248 Tryz.f248 tf247 lf
theorem tf248a:AF tf248:=af_ Tryz.func248 (by kernel_rfl) tf247a trivial
noncomputable def tf246:=nf 246 Tryz.f246 tf245 tf248
theorem tf246a:AF tf246:=af_ Tryz.func246 (by kernel_rfl) tf245a tf248a
noncomputable def tf250:=nf 250 Tryz.f250 lf lf
theorem tf250a:AF tf250:=af_ Tryz.func250 (by kernel_rfl) trivial trivial
noncomputable def tf251:=nf 251 Tryz.f251 tf250 lf
theorem tf251a:AF tf251:=af_ Tryz.func251 (by kernel_rfl) tf250a trivial
noncomputable def tf253:=nf 253 Tryz.f253 lf lf
theorem tf253a:AF tf253:=af_ Tryz.func253 (by kernel_rfl) trivial trivial
noncomputable def tf252:=nf 252 Tryz.f252 tf251 tf253
theorem tf252a:AF tf252:=af_ Tryz.func252 (by kernel_rfl) tf251a tf253a
noncomputable def tf249:=nf 249 Tryz.f249 tf246 tf252
theorem tf249a:AF tf249:=af_ Tryz.func249 (by kernel_rfl) tf246a tf252a
noncomputable def tf243:=nf 243 Tryz.f243 tf237 tf249
theorem tf243a:AF tf243:=af_ Tryz.func243 (by kernel_rfl) tf237a tf249a
noncomputable def tf255:=nf 255 Tryz.f255 lf lf
theorem tf255a:AF tf255:=af_ Tryz.func255 (by kernel_rfl) trivial trivial
noncomputable def tf256:=nf 256 Tryz.f256 tf255 lf
theorem tf256a:AF tf256:=af_ Tryz.func256 (by kernel_rfl) tf255a trivial
noncomputable def tf258:=nf 258 Tryz.f258 lf lf
theorem tf258a:AF tf258:=af_ Tryz.func258 (by kernel_rfl) trivial trivial
noncomputable def tf259:=nf 259 Tryz.f259 tf258 lf
theorem tf259a:AF tf259:=af_ Tryz.func259 (by kernel_rfl) tf258a trivial
noncomputable def tf257:=nf 257 Tryz.f257 tf256 tf259
theorem tf257a:AF tf257:=af_ Tryz.func257 (by kernel_rfl) tf256a tf259a
noncomputable def tf261:=nf 261 Tryz.f261 lf lf
theorem tf261a:AF tf261:=af_ Tryz.func261 (by kernel_rfl) trivial trivial
noncomputable def tf262:=nf 262 Tryz.f262 tf261 lf
theorem tf262a:AF tf262:=af_ Tryz.func262 (by kernel_rfl) tf261a trivial
noncomputable def tf264:=nf 264 Tryz.f264 lf lf
theorem tf264a:AF tf264:=af_ Tryz.func264 (by kernel_rfl) trivial trivial
noncomputable def tf263:=nf 263 Tryz.f263 tf262 tf264
theorem tf263a:AF tf263:=af_ Tryz.func263 (by kernel_rfl) tf262a tf264a
noncomputable def tf260:=nf 260 Tryz.f260 tf257 tf263
theorem tf260a:AF tf260:=af_ Tryz.func260 (by kernel_rfl) tf257a tf263a
noncomputable def tf266:=nf 266 Tryz.f266 lf lf
theorem tf266a:AF tf266:=af_ Tryz.func266 (by kernel_rfl) trivial trivial
noncomputable def tf267:=nf 267 Tryz.f267 tf266 lf
theorem tf267a:AF tf267:=af_ Tryz.func267 (by kernel_rfl) tf266a trivial
noncomputable def tf269:=nf 269 Tryz.f269 lf lf
theorem tf269a:AF tf269:=af_ Tryz.func269 (by kernel_rfl) trivial trivial
noncomputable def tf270:=nf 270 Tryz.f270 tf269 lf
theorem tf270a:AF tf270:=af_ Tryz.func270 (by kernel_rfl) tf269a trivial
noncomputable def tf268:=nf 268 Tryz.f268 tf267 tf270
theorem tf268a:AF tf268:=af_ Tryz.func268 (by kernel_rfl) tf267a tf270a
noncomputable def tf272:=nf 272 Tryz.f272 lf lf
theorem tf272a:AF tf272:=af_ Tryz.func272 (by kernel_rfl) trivial trivial
noncomputable def tf273:=nf 273 Tryz.f273 tf272 lf
theorem tf273a:AF tf273:=af_ Tryz.func273 (by kernel_rfl) tf272a trivial
noncomputable def tf275:=nf 275 Tryz.f275 lf lf
theorem tf275a:AF tf275:=af_ Tryz.func275 (by kernel_rfl) trivial trivial
noncomputable def tf274:=nf 274 Tryz.f274 tf273 tf275
theorem tf274a:AF tf274:=af_ Tryz.func274 (by kernel_rfl) tf273a tf275a
noncomputable def tf271:=nf 271 Tryz.f271 tf268 tf274
theorem tf271a:AF tf271:=af_ Tryz.func271 (by kernel_rfl) tf268a tf274a
noncomputable def tf265:=nf 265 Tryz.f265 tf260 tf271
theorem tf265a:AF tf265:=af_ Tryz.func265 (by kernel_rfl) tf260a tf271a
noncomputable def tf254:=nf 254 Tryz.f254 tf243 tf265
theorem tf254a:AF tf254:=af_ Tryz.func254 (by kernel_rfl) tf243a tf265a
noncomputable def tf231:=nf 231 Tryz.f231 tf208 tf254
theorem tf231a:AF tf231:=af_ Tryz.func231 (by kernel_rfl) tf208a tf254a
noncomputable def tf277:=nf 277 Tryz.f277 lf lf
theorem tf277a:AF tf277:=af_ Tryz.func277 (by kernel_rfl) trivial trivial
noncomputable def tf278:=nf 278 Tryz.f278 tf277 lf
theorem tf278a:AF tf278:=af_ Tryz.func278 (by kernel_rfl) tf277a trivial
noncomputable def tf280:=nf 280 Tryz.f280 lf lf
theorem tf280a:AF tf280:=af_ Tryz.func280 (by kernel_rfl) trivial trivial
noncomputable def tf281:=nf 281 Tryz.f281 tf280 lf
theorem tf281a:AF tf281:=af_ Tryz.func281 (by kernel_rfl) tf280a trivial
noncomputable def tf279:=nf 279 Tryz.f279 tf278 tf281
theorem tf279a:AF tf279:=af_ Tryz.func279 (by kernel_rfl) tf278a tf281a
noncomputable def tf283:=nf 283 Tryz.f283 lf lf
theorem tf283a:AF tf283:=af_ Tryz.func283 (by kernel_rfl) trivial trivial
noncomputable def tf284:=nf 284 Tryz.f284 tf283 lf
theorem tf284a:AF tf284:=af_ Tryz.func284 (by kernel_rfl) tf283a trivial
noncomputable def tf286:=nf 286 Tryz.f286 lf lf
theorem tf286a:AF tf286:=af_ Tryz.func286 (by kernel_rfl) trivial trivial
noncomputable def tf287:=nf 287 Tryz.f287 tf286 lf
theorem tf287a:AF tf287:=af_ Tryz.func287 (by kernel_rfl) tf286a trivial
noncomputable def tf285:=nf 285 Tryz.f285 tf284 tf287
theorem tf285a:AF tf285:=af_ Tryz.func285 (by kernel_rfl) tf284a tf287a
noncomputable def tf282:=nf 282 Tryz.f282 tf279 tf285
theorem tf282a:AF tf282:=af_ Tryz.func282 (by kernel_rfl) tf279a tf285a
noncomputable def tf289:=nf 289 Tryz.f289 lf lf
theorem tf289a:AF tf289:=af_ Tryz.func289 (by kernel_rfl) trivial trivial
noncomputable def tf290:=nf 290 Tryz.f290 tf289 lf
theorem tf290a:AF tf290:=af_ Tryz.func290 (by kernel_rfl) tf289a trivial
noncomputable def tf292:=nf 292 Tryz.f292 lf lf
theorem tf292a:AF tf292:=af_ Tryz.func292 (by kernel_rfl) trivial trivial
noncomputable def tf293:=nf 293 Tryz.f293 tf292 lf
theorem tf293a:AF tf293:=af_ Tryz.func293 (by kernel_rfl) tf292a trivial
noncomputable def tf291:=nf 291 Tryz.f291 tf290 tf293
theorem tf291a:AF tf291:=af_ Tryz.func291 (by kernel_rfl) tf290a tf293a
noncomputable def tf295:=nf 295 Tryz.f295 lf lf
theorem tf295a:AF tf295:=af_ Tryz.func295 (by kernel_rfl) trivial trivial
noncomputable def tf296:=nf 296 Tryz.f296 tf295 lf
theorem tf296a:AF tf296:=af_ Tryz.func296 (by kernel_rfl) tf295a trivial
noncomputable def tf298:=nf 298 Tryz.f298 lf lf
theorem tf298a:AF tf298:=af_ Tryz.func298 (by kernel_rfl) trivial trivial
noncomputable def tf297:=nf 297 Tryz.f297 tf296 tf298
theorem tf297a:AF tf297:=af_ Tryz.func297 (by kernel_rfl) tf296a tf298a
noncomputable def tf294:=nf 294 Tryz.f294 tf291 tf297
theorem tf294a:AF tf294:=af_ Tryz.func294 (by kernel_rfl) tf291a tf297a
noncomputable def tf288:=nf 288 Tryz.f288 tf282 tf294
theorem tf288a:AF tf288:=af_ Tryz.func288 (by kernel_rfl) tf282a tf294a
noncomputable def tf300:=nf 300 Tryz.f300 lf lf
theorem tf300a:AF tf300:=af_ Tryz.func300 (by kernel_rfl) trivial trivial
noncomputable def tf301:=nf 301 Tryz.f301 tf300 lf
theorem tf301a:AF tf301:=af_ Tryz.func301 (by kernel_rfl) tf300a trivial
noncomputable def tf303:=nf 303 Tryz.f303 lf lf
theorem tf303a:AF tf303:=af_ Tryz.func303 (by kernel_rfl) trivial trivial
noncomputable def tf304:=nf 304 Tryz.f304 tf303 lf
theorem tf304a:AF tf304:=af_ Tryz.func304 (by kernel_rfl) tf303a trivial
noncomputable def tf302:=nf 302 Tryz.f302 tf301 tf304
theorem tf302a:AF tf302:=af_ Tryz.func302 (by kernel_rfl) tf301a tf304a
noncomputable def tf306:=nf 306 Tryz.f306 lf lf
theorem tf306a:AF tf306:=af_ Tryz.func306 (by kernel_rfl) trivial trivial
noncomputable def tf307:=nf 307 Tryz.f307 tf306 lf
theorem tf307a:AF tf307:=af_ Tryz.func307 (by kernel_rfl) tf306a trivial
noncomputable def tf309:=nf 309 Tryz.f309 lf lf
theorem tf309a:AF tf309:=af_ Tryz.func309 (by kernel_rfl) trivial trivial
noncomputable def tf310:=nf 310 Tryz.f310 tf309 lf
theorem tf310a:AF tf310:=af_ Tryz.func310 (by kernel_rfl) tf309a trivial
noncomputable def tf308:=nf 308 Tryz.f308 tf307 tf310
theorem tf308a:AF tf308:=af_ Tryz.func308 (by kernel_rfl) tf307a tf310a
noncomputable def tf305:=nf 305 Tryz.f305 tf302 tf308
theorem tf305a:AF tf305:=af_ Tryz.func305 (by kernel_rfl) tf302a tf308a
noncomputable def tf312:=nf 312 Tryz.f312 lf lf
theorem tf312a:AF tf312:=af_ Tryz.func312 (by kernel_rfl) trivial trivial
noncomputable def tf313:=nf 313 Tryz.f313 tf312 lf
theorem tf313a:AF tf313:=af_ Tryz.func313 (by kernel_rfl) tf312a trivial
noncomputable def tf315:=nf 315 Tryz.f315 lf lf
theorem tf315a:AF tf315:=af_ Tryz.func315 (by kernel_rfl) trivial trivial
noncomputable def tf316:=nf 316 Tryz.f316 tf315 lf
theorem tf316a:AF tf316:=af_ Tryz.func316 (by kernel_rfl) tf315a trivial
noncomputable def tf314:=nf 314 Tryz.f314 tf313 tf316
theorem tf314a:AF tf314:=af_ Tryz.func314 (by kernel_rfl) tf313a tf316a
noncomputable def tf318:=nf 318 Tryz.f318 lf lf
theorem tf318a:AF tf318:=af_ Tryz.func318 (by kernel_rfl) trivial trivial
noncomputable def tf319:=nf 319 Tryz.f319 tf318 lf
theorem tf319a:AF tf319:=af_ Tryz.func319 (by kernel_rfl) tf318a trivial
noncomputable def tf321:=nf 321 Tryz.f321 lf lf
theorem tf321a:AF tf321:=af_ Tryz.func321 (by kernel_rfl) trivial trivial
noncomputable def tf320:=nf 320 Tryz.f320 tf319 tf321
theorem tf320a:AF tf320:=af_ Tryz.func320 (by kernel_rfl) tf319a tf321a
noncomputable def tf317:=nf 317 Tryz.f317 tf314 tf320
theorem tf317a:AF tf317:=af_ Tryz.func317 (by kernel_rfl) tf314a tf320a
noncomputable def tf311:=nf 311 Tryz.f311 tf305 tf317
theorem tf311a:AF tf311:=af_ Tryz.func311 (by kernel_rfl) tf305a tf317a
noncomputable def tf299:=nf 299 Tryz.f299 tf288 tf311
theorem tf299a:AF tf299:=af_ Tryz.func299 (by kernel_rfl) tf288a tf311a
noncomputable def tf323:=nf 323 Tryz.f323 lf lf
theorem tf323a:AF tf323:=af_ Tryz.func323 (by kernel_rfl) trivial trivial
noncomputable def tf324:=nf 324 Tryz.f324 tf323 lf
theorem tf324a:AF tf324:=af_ Tryz.func324 (by kernel_rfl) tf323a trivial
noncomputable def tf326:=nf 326 Tryz.f326 lf lf
theorem tf326a:AF tf326:=af_ Tryz.func326 (by kernel_rfl) trivial trivial
noncomputable def tf327:=nf 327 Tryz.f327 tf326 lf
theorem tf327a:AF tf327:=af_ Tryz.func327 (by kernel_rfl) tf326a trivial
noncomputable def tf325:=nf 325 Tryz.f325 tf324 tf327
theorem tf325a:AF tf325:=af_ Tryz.func325 (by kernel_rfl) tf324a tf327a
noncomputable def tf329:=nf 329 Tryz.f329 lf lf
theorem tf329a:AF tf329:=af_ Tryz.func329 (by kernel_rfl) trivial trivial
noncomputable def tf330:=nf 330 Tryz.f330 tf329 lf
theorem tf330a:AF tf330:=af_ Tryz.func330 (by kernel_rfl) tf329a trivial
noncomputable def tf332:=nf 332 Tryz.f332 lf lf
theorem tf332a:AF tf332:=af_ Tryz.func332 (by kernel_rfl) trivial trivial
noncomputable def tf333:=nf 333 Tryz.f333 tf332 lf
theorem tf333a:AF tf333:=af_ Tryz.func333 (by kernel_rfl) tf332a trivial
noncomputable def tf331:=nf 331 Tryz.f331 tf330 tf333
theorem tf331a:AF tf331:=af_ Tryz.func331 (by kernel_rfl) tf330a tf333a
noncomputable def tf328:=nf 328 Tryz.f328 tf325 tf331
theorem tf328a:AF tf328:=af_ Tryz.func328 (by kernel_rfl) tf325a tf331a
noncomputable def tf335:=nf 335 Tryz.f335 lf lf
theorem tf335a:AF tf335:=af_ Tryz.func335 (by kernel_rfl) trivial trivial
noncomputable def tf336:=nf 336 Tryz.f336 tf335 lf
theorem tf336a:AF tf336:=af_ Tryz.func336 (by kernel_rfl) tf335a trivial
noncomputable def tf338:=nf 338 Tryz.f338 lf lf
theorem tf338a:AF tf338:=af_ Tryz.func338 (by kernel_rfl) trivial trivial
noncomputable def tf339:=nf 339 Tryz.f339 tf338 lf
theorem tf339a:AF tf339:=af_ Tryz.func339 (by kernel_rfl) tf338a trivial
noncomputable def tf337:=nf 337 Tryz.f337 tf336 tf339
theorem tf337a:AF tf337:=af_ Tryz.func337 (by kernel_rfl) tf336a tf339a
noncomputable def tf341:=nf 341 Tryz.f341 lf lf
theorem tf341a:AF tf341:=af_ Tryz.func341 (by kernel_rfl) trivial trivial
noncomputable def tf342:=nf 342 Tryz.f342 tf341 lf
theorem tf342a:AF tf342:=af_ Tryz.func342 (by kernel_rfl) tf341a trivial
noncomputable def tf344:=nf 344 Tryz.f344 lf lf
theorem tf344a:AF tf344:=af_ Tryz.func344 (by kernel_rfl) trivial trivial
noncomputable def tf343:=nf 343 Tryz.f343 tf342 tf344
theorem tf343a:AF tf343:=af_ Tryz.func343 (by kernel_rfl) tf342a tf344a
noncomputable def tf340:=nf 340 Tryz.f340 tf337 tf343
theorem tf340a:AF tf340:=af_ Tryz.func340 (by kernel_rfl) tf337a tf343a
noncomputable def tf334:=nf 334 Tryz.f334 tf328 tf340
theorem tf334a:AF tf334:=af_ Tryz.func334 (by kernel_rfl) tf328a tf340a
noncomputable def tf346:=nf 346 Tryz.f346 lf lf
theorem tf346a:AF tf346:=af_ Tryz.func346 (by kernel_rfl) trivial trivial
noncomputable def tf347:=nf 347 Tryz.f347 tf346 lf
theorem tf347a:AF tf347:=af_ Tryz.func347 (by kernel_rfl) tf346a trivial
noncomputable def tf349:=nf 349 Tryz.f349 lf lf
theorem tf349a:AF tf349:=af_ Tryz.func349 (by kernel_rfl) trivial trivial
noncomputable def tf350:=nf 350 Tryz.f350 tf349 lf
theorem tf350a:AF tf350:=af_ Tryz.func350 (by kernel_rfl) tf349a trivial
noncomputable def tf348:=nf 348 Tryz.f348 tf347 tf350
theorem tf348a:AF tf348:=af_ Tryz.func348 (by kernel_rfl) tf347a tf350a
noncomputable def tf352:=nf 352 Tryz.f352 lf lf
theorem tf352a:AF tf352:=af_ Tryz.func352 (by kernel_rfl) trivial trivial
noncomputable def tf353:=nf 353 Tryz.f353 tf352 lf
theorem tf353a:AF tf353:=af_ Tryz.func353 (by kernel_rfl) tf352a trivial
noncomputable def tf355:=nf 355 Tryz.f355 lf lf
theorem tf355a:AF tf355:=af_ Tryz.func355 (by kernel_rfl) trivial trivial
noncomputable def tf354:=nf 354 Tryz.f354 tf353 tf355
theorem tf354a:AF tf354:=af_ Tryz.func354 (by kernel_rfl) tf353a tf355a
noncomputable def tf351:=nf 351 Tryz.f351 tf348 tf354
theorem tf351a:AF tf351:=af_ Tryz.func351 (by kernel_rfl) tf348a tf354a
noncomputable def tf357:=nf 357 Tryz.f357 lf lf
theorem tf357a:AF tf357:=af_ Tryz.func357 (by kernel_rfl) trivial trivial
noncomputable def tf358:=nf 358 Tryz.f358 tf357 lf
theorem tf358a:AF tf358:=af_ Tryz.func358 (by kernel_rfl) tf357a trivial
noncomputable def tf360:=nf 360 Tryz.f360 lf lf
theorem tf360a:AF tf360:=af_ Tryz.func360 (by kernel_rfl) trivial trivial
noncomputable def tf361:=nf 361 Tryz.f361 tf360 lf
theorem tf361a:AF tf361:=af_ Tryz.func361 (by kernel_rfl) tf360a trivial
noncomputable def tf359:=nf 359 Tryz.f359 tf358 tf361
theorem tf359a:AF tf359:=af_ Tryz.func359 (by kernel_rfl) tf358a tf361a
noncomputable def tf363:=nf 363 Tryz.f363 lf lf
theorem tf363a:AF tf363:=af_ Tryz.func363 (by kernel_rfl) trivial trivial
noncomputable def tf365:=nf 365 Tryz.f365 tf363 lf
theorem tf365a:AF tf365:=af_ Tryz.func365 (by kernel_rfl) tf363a trivial
noncomputable def tf368:=nf 368 Tryz.f368 lf lf
theorem tf368a:AF tf368:=af_ Tryz.func368 (by kernel_rfl) trivial trivial
noncomputable def tf366:=nf 366 Tryz.f366 tf365 tf368
theorem tf366a:AF tf366:=af_ Tryz.func366 (by kernel_rfl) tf365a tf368a
noncomputable def tf362:=nf 362 Tryz.f362 tf359 tf366
theorem tf362a:AF tf362:=af_ Tryz.func362 (by kernel_rfl) tf359a tf366a
noncomputable def tf356:=nf 356 Tryz.f356 tf351 tf362
theorem tf356a:AF tf356:=af_ Tryz.func356 (by kernel_rfl) tf351a tf362a
noncomputable def tf345:=nf 345 Tryz.f345 tf334 tf356
theorem tf345a:AF tf345:=af_ Tryz.func345 (by kernel_rfl) tf334a tf356a
noncomputable def tf322:=nf 322 Tryz.f322 tf299 tf345
theorem tf322a:AF tf322:=af_ Tryz.func322 (by kernel_rfl) tf299a tf345a
noncomputable def tf276:=nf 276 Tryz.f276 tf231 tf322
theorem tf276a:AF tf276:=af_ Tryz.func276 (by kernel_rfl) tf231a tf322a
noncomputable def tf185:=nf 185 Tryz.f185 tf94 tf276
theorem tf185a:AF tf185:=af_ Tryz.func185 (by kernel_rfl) tf94a tf276a
noncomputable def gl:Gl:=⟨fun t=>tt110.find t,fun f=>tf185.find f,fun _=>none⟩
theorem gl_ok:GOK gl Tryz.prog:=GOK.of tt110a tf185a
noncomputable def cfg:Cfg:=⟨gl,52,43,100000,fun call nt=>drawD gl call nt⟩
end Go.Proofs.YtdhcgankmhpgeaaGreat.M
namespace Go.Proofs.YtdhcgankmhpgeaaGreat.M
open Go Go.RowKit
theorem catch_back(w:World)(pv:Value):CallsD Tryz.prog 52 #[pv] .returning w fun e u w'=>(∃ v,e = .returned v)∧u = .returning∧Below w.heap.size w w':=by
 refine callsD_of_wpS Tryz.func52 rfl fun c₀ cs hu=>?_
 apply wpS_seq
 apply wpS_region
 simp [wpOpsS,go_sem,recoverD,hu,Tryz.ntmps52,Exit.thenS]
 refine wpS_of_wp (wp_block ?_)
 have e:∀ w:World,(binOp BinOp.eql 20 .nilIface .nilIface).run Tryz.prog w = .ok (.bool true) w:=fun _=>by kernel_rfl
 go_wp2
 cases c₀
 simp_all [bodyPostS,results,Tryz.results52,Below.refl]
theorem catch_pan(w w1:World)(pv:Value)(k:IntKind)(n:Int)(hst:(Instr.storeAt 43 pv (.int k n)).run Tryz.prog w = .ok () w1) :
  CallsD Tryz.prog 52 #[pv] (.panicking [{ v := .iface 43 (.int k n),recovered:=false }]) w fun e u w'=>(∃ v,e = .returned v)∧u = .panicking [{ v := .iface 43 (.int k n),recovered:=true }]∧Below w1.heap.size w1 w':=by
 refine callsD_of_wpS Tryz.func52 rfl fun c₀ cs hu=>?_
 apply wpS_seq
 apply wpS_region
 simp [wpOpsS,go_sem,recoverD,hu,Tryz.ntmps52,Exit.thenS]
 refine wpS_of_wp (wp_block ?_)
 have e1:∀ w:World,(binOp BinOp.eql 20 (.iface 43 (.int k n)) .nilIface).run Tryz.prog w = .ok (.bool false) w:=fun _=>by kernel_rfl
 have e2:∀ w:World,(Instr.typeAssert (.iface 43 (.int k n)) 20 43 true).run Tryz.prog w = .ok (.tuple #[.int k n,.bool true]) w:=fun _=>by kernel_rfl
 repeat (apply wp_seq;apply wp_region)
 simp [wpOps,go_sem,Exit.then,e1,e2]
 repeat refine Or.inl ?_
 refine(wp_cond (t:=false) (by simp [Act.eval,Array.replicate]) ?_)
 simp only [Bool.false_eq_true,if_false]
 apply wp_seq
 apply wp_region
 simp [wpOps,go_sem,Exit.then,e2]
 repeat refine Or.inl ?_
 refine(wp_cond (t:=true) (by simp [Act.eval,Array.replicate]) ?_)
 simp only [if_true]
 apply wp_seq
 apply wp_region
 simp [wpOps,go_sem,Exit.then]
 repeat refine Or.inl ?_
 apply wp_region
 have hpv:∃ a,pv = .pointer (some a):=by
  cases pv<;>simp only [Instr.storeAt,Instr.sureAddr,Sem.run_bind,run_stuck,Result.andThen_halt] at hst<;>first|(cases hst;done)|skip
  rename_i a
  cases a with
  | none=>simp only [run_stuck,Result.andThen_halt] at hst;cases hst
  | some a=>exact⟨a,rfl⟩
 obtain⟨ad,rfl⟩:=hpv
 simp [wpOps,Region.wanted,Exit.inBlock,Oper.wp,Oper.upon,execOp,List.range,List.range.loop,Act.put,Act.eval,Array.replicate,hst,Sem.run_bind,Sem.run_pure,Result.andThen_ok]
 repeat refine Or.inl ?_
 clear hst e1 e2
 cases c₀
 simp_all [bodyPostS,results,Tryz.results52,Below.refl]
theorem catch_ok:CatchOK Tryz.prog 52 43 where
 fn:=⟨_,Tryz.func52,rfl,by kernel_rfl⟩
 back:=catch_back
 pan:=catch_pan
theorem cfg_ok:CfgOK cfg Tryz.prog where
 G:=gl_ok
 cat:=catch_ok
 pu:=fun f p h=>by cases h
 draw:=fun call hc nt=>drawD_ok (by kernel_rfl) gl_ok hc
def eqInt:Int→Int→Bool
 | .ofNat a,.ofNat b=>Nat.beq a b
 | .negSucc a,.negSucc b=>Nat.beq a b
 | _,_=>false
theorem eqInt_ok:∀{a b:Int},eqInt a b=true→a=b
 | .ofNat a,.ofNat b,h=>congrArg _ (Nat.eq_of_beq_eq_true h)
 | .negSucc a,.negSucc b,h=>congrArg _ (Nat.eq_of_beq_eq_true h)
 | .ofNat a,.negSucc b,h=>by cases h
 | .negSucc a,.ofNat b,h=>by cases h
def eqBool:Bool→Bool→Bool
 | true,true=>true
 | false,false=>true
 | _,_=>false
theorem eqBool_ok:∀{a b:Bool},eqBool a b=true→a=b
 | true,true,_=>rfl
 | false,false,_=>rfl
 | true,false,h=>by cases h
 | false,true,h=>by cases h
def eqStr:List UInt8→List UInt8→Bool
 | [],[]=>true
 | x::xs,y::ys=>Nat.beq x.toNat y.toNat&&eqStr xs ys
 | _,_=>false
theorem eqStr_ok:∀{a b:List UInt8},eqStr a b=true→a=b
 | [],[],_=>rfl
 | x::xs,y::ys,h=>by
   simp only [eqStr,Bool.and_eq_true] at h
   rw [UInt8.toNat_inj.1 (Nat.eq_of_beq_eq_true h.1),eqStr_ok h.2]
 | [],_::_,h=>by cases h
 | _::_,[],h=>by cases h
def kindNo:IntKind→Nat
 | .i8=>0 | .u8=>1 | .i16=>2 | .u16=>3 | .i32=>4 | .u32=>5 | .i64=>6 | .u64=>7
theorem kindNo_ok{a b:IntKind}(h:Nat.beq (kindNo a) (kindNo b)=true):a=b:=by
 cases a<;>cases b<;>first|rfl|(exfalso;revert h;decide)
mutual
def eqAV:AV→AV→Bool
 | .int k a,.int l b=>Nat.beq (kindNo k) (kindNo l)&&eqInt a b
 | .bool a,.bool b=>eqBool a b
 | .str a,.str b=>eqStr a b
 | .sl s a,.sl t b=>Nat.beq s t&&eqAE a b
 | .nils,.nils=>true
 | .nilp,.nilp=>true
 | .nilfn,.nilfn=>true
 | .nilif,.nilif=>true
 | .nilm,.nilm=>true
 | .ep a,.ep b=>eqAL a b
 | .fn f a,.fn g b=>Nat.beq f g&&eqAL a b
 | .ifc t a,.ifc u b=>Nat.beq t u&&eqAV a b
 | .agg a,.agg b=>eqAL a b
 | .tup a,.tup b=>eqAL a b
 | .ptr a o,.ptr b p=>Nat.beq a b&&Nat.beq o p
 | .rp a i o,.rp b j p=>Nat.beq a b&&Nat.beq i j&&Nat.beq o p
 | .row a o n,.row b p m=>Nat.beq a b&&Nat.beq o p&&Nat.beq n m
 | .mp a,.mp b=>Nat.beq a b
 | .undef,.undef=>true
 | _,_=>false
def eqAL:List AV→List AV→Bool
 | [],[]=>true
 | x::xs,y::ys=>eqAV x y&&eqAL xs ys
 | _,_=>false
def eqAE:List (List AV)→List (List AV)→Bool
 | [],[]=>true
 | x::xs,y::ys=>eqAL x y&&eqAE xs ys
 | _,_=>false
end
mutual
theorem eqAV_ok:∀(a b:AV),eqAV a b=true→a=b
 | .int k a,b,h=>by
   cases b<;>simp only [eqAV,Bool.and_eq_true] at h<;>first|(cases h;done)|skip
   rw [kindNo_ok h.1,eqInt_ok h.2]
 | .bool a,b,h=>by
   cases b<;>simp only [eqAV] at h<;>first|(cases h;done)|skip
   rw [eqBool_ok h]
 | .str a,b,h=>by
   cases b<;>simp only [eqAV] at h<;>first|(cases h;done)|skip
   rw [eqStr_ok h]
 | .sl s a,b,h=>by
   cases b<;>simp only [eqAV,Bool.and_eq_true] at h<;>first|(cases h;done)|skip
   rw [Nat.eq_of_beq_eq_true h.1,eqAE_ok _ _ h.2]
 | .nils,b,h=>by cases b<;>simp only [eqAV] at h<;>first|rfl|(cases h;done)
 | .nilp,b,h=>by cases b<;>simp only [eqAV] at h<;>first|rfl|(cases h;done)
 | .nilfn,b,h=>by cases b<;>simp only [eqAV] at h<;>first|rfl|(cases h;done)
 | .nilif,b,h=>by cases b<;>simp only [eqAV] at h<;>first|rfl|(cases h;done)
 | .nilm,b,h=>by cases b<;>simp only [eqAV] at h<;>first|rfl|(cases h;done)
 | .ep a,b,h=>by
   cases b<;>simp only [eqAV] at h<;>first|(cases h;done)|skip
   rw [eqAL_ok _ _ h]
 | .fn f a,b,h=>by
   cases b<;>simp only [eqAV,Bool.and_eq_true] at h<;>first|(cases h;done)|skip
   rw [Nat.eq_of_beq_eq_true h.1,eqAL_ok _ _ h.2]
 | .ifc t a,b,h=>by
   cases b<;>simp only [eqAV,Bool.and_eq_true] at h<;>first|(cases h;done)|skip
   rw [Nat.eq_of_beq_eq_true h.1,eqAV_ok _ _ h.2]
 | .agg a,b,h=>by
   cases b<;>simp only [eqAV] at h<;>first|(cases h;done)|skip
   rw [eqAL_ok _ _ h]
 | .tup a,b,h=>by
   cases b<;>simp only [eqAV] at h<;>first|(cases h;done)|skip
   rw [eqAL_ok _ _ h]
 | .ptr a o,b,h=>by
   cases b<;>simp only [eqAV,Bool.and_eq_true] at h<;>first|(cases h;done)|skip
   rw [Nat.eq_of_beq_eq_true h.1,Nat.eq_of_beq_eq_true h.2]
 | .rp a i o,b,h=>by
   cases b<;>simp only [eqAV,Bool.and_eq_true] at h<;>first|(cases h;done)|skip
   rw [Nat.eq_of_beq_eq_true h.1.1,Nat.eq_of_beq_eq_true h.1.2,Nat.eq_of_beq_eq_true h.2]
 | .row a o n,b,h=>by
   cases b<;>simp only [eqAV,Bool.and_eq_true] at h<;>first|(cases h;done)|skip
   rw [Nat.eq_of_beq_eq_true h.1.1,Nat.eq_of_beq_eq_true h.1.2,Nat.eq_of_beq_eq_true h.2]
 | .mp a,b,h=>by
   cases b<;>simp only [eqAV] at h<;>first|(cases h;done)|skip
   rw [Nat.eq_of_beq_eq_true h]
 | .undef,b,h=>by cases b<;>simp only [eqAV] at h<;>first|rfl|(cases h;done)
theorem eqAL_ok:∀(a b:List AV),eqAL a b=true→a=b
 | [],[],_=>rfl
 | x::xs,y::ys,h=>by
   simp only [eqAL,Bool.and_eq_true] at h
   rw [eqAV_ok _ _ h.1,eqAL_ok _ _ h.2]
 | [],_::_,h=>by simp [eqAL] at h
 | _::_,[],h=>by simp [eqAL] at h
theorem eqAE_ok:∀(a b:List (List AV)),eqAE a b=true→a=b
 | [],[],_=>rfl
 | x::xs,y::ys,h=>by
   simp only [eqAE,Bool.and_eq_true] at h
   rw [eqAL_ok _ _ h.1,eqAE_ok _ _ h.2]
 | [],_::_,h=>by simp [eqAE] at h
 | _::_,[],h=>by simp [eqAE] at h
end
def eqM:List (List UInt8×AV)→List (List UInt8×AV)→Bool
 | [],[]=>true
 | (s,x)::xs,(t,y)::ys=>eqStr s t&&eqAV x y&&eqM xs ys
 | _,_=>false
theorem eqM_ok:∀(a b:List (List UInt8×AV)),eqM a b=true→a=b
 | [],[],_=>rfl
 | (s,x)::xs,(t,y)::ys,h=>by
   simp only [eqM,Bool.and_eq_true] at h
   rw [eqStr_ok h.1.1,eqAV_ok _ _ h.1.2,eqM_ok _ _ h.2]
 | [],_::_,h=>by simp [eqM] at h
 | _::_,[],h=>by simp [eqM] at h
def eqO:Obj'→Obj'→Bool
 | .var t a,.var u b=>Nat.beq t u&&eqAL a b
 | .arr t s a,.arr u r b=>Nat.beq t u&&Nat.beq s r&&eqAE a b
 | .mapo a,.mapo b=>eqM a b
 | .dead,.dead=>true
 | _,_=>false
theorem eqO_ok:∀(a b:Obj'),eqO a b=true→a=b
 | .var t a,b,h=>by
   cases b<;>simp only [eqO,Bool.and_eq_true] at h<;>first|(cases h;done)|skip
   rw [Nat.eq_of_beq_eq_true h.1,eqAL_ok _ _ h.2]
 | .arr t s a,b,h=>by
   cases b<;>simp only [eqO,Bool.and_eq_true] at h<;>first|(cases h;done)|skip
   rw [Nat.eq_of_beq_eq_true h.1.1,Nat.eq_of_beq_eq_true h.1.2,eqAE_ok _ _ h.2]
 | .mapo a,b,h=>by
   cases b<;>simp only [eqO] at h<;>first|(cases h;done)|skip
   rw [eqM_ok _ _ h]
 | .dead,b,h=>by cases b<;>simp only [eqO] at h<;>first|rfl|(cases h;done)
def eqOs:List Obj'→List Obj'→Bool
 | [],[]=>true
 | x::xs,y::ys=>eqO x y&&eqOs xs ys
 | _,_=>false
theorem eqOs_ok:∀(a b:List Obj'),eqOs a b=true→a=b
 | [],[],_=>rfl
 | x::xs,y::ys,h=>by
   simp only [eqOs,Bool.and_eq_true] at h
   rw [eqO_ok _ _ h.1,eqOs_ok _ _ h.2]
 | [],_::_,h=>by simp [eqOs] at h
 | _::_,[],h=>by simp [eqOs] at h
structure Ent where
 f:Nat
 args:List AV
 objs:List Obj'
 r:AE
 objs':List Obj'
def memo:List Ent→CallF
 | [],_,_,_=>none
 | e::l,f,args,objs=>if Nat.beq f e.f&&eqAL args e.args&&eqOs objs e.objs then some (e.r,e.objs') else memo l f args objs
def FnAt(P:Program)(f:Nat)(args:List AV)(objs:List Obj')(r:AE)(objs':List Obj'):Prop :=
 (∃ fn,P.funcs[f]?=some fn∧fn.body.isNone=false∧(fn.name == "runtime.NumGoroutine")=false)∧∀ w I pl vs,HR w I pl (numbered 0 objs)→(∀ b,objs.length≤b→pl b=none)→RepL w I pl args vs →
  Calls P f vs.toArray w fun e w'=>∃ I' pl',Stp w I pl (numbered 0 objs) w' I' pl' (numbered 0 objs')∧HR w' I' pl' (numbered 0 objs')∧EndOK w' I' pl' r e∧∀ b,b<objs.length→pl' b=pl b
theorem memo_ok{P:Program}:∀{l:List Ent},(∀ e∈l,FnAt P e.f e.args e.objs e.r e.objs')→FnOK P (memo l)
 | [],_,f,args,objs,r,objs',h=>by cases h
 | e::l,hl,f,args,objs,r,objs',h=>by
   unfold memo at h
   split at h
   ·rename_i hc
    simp only [Bool.and_eq_true] at hc
    have e1:=Nat.eq_of_beq_eq_true hc.1.1
    have e2:=eqAL_ok _ _ hc.1.2
    have e3:=eqOs_ok _ _ hc.2
    subst e1 e2 e3
    injection h with h
    injection h with h1 h2
    subst h1 h2
    exact hl e (by simp)
   ·exact memo_ok (fun x hx=>hl x (by simp [hx])) f args objs r objs' h
def ccall(C:Cfg)(call:CallF):CallF:=fun f args objs=>match C.G.fn f with
 | none=>none
 | some F=>match F.body with
   | none=>none
   | some c=>match C.G.pu f with
     | some p=>if objs.isEmpty then (p args).map (·,[]) else none
     | none =>
       if args.length≤F.ntmps then
        exec ⟨C.G,call,F.ntmps,C.fuel,C.drawR call F.ntmps⟩ c ⟨numbered 0 args,numbered 0 objs,objs.length,[]⟩ (finish C.G C.catchF C.errT F objs.length)
       else none
section
variable {P : Program} {c : Ctx} {w w' : World} {I I' : Nat → Prop} {pl pl' : Plan} {hp : Hp}
theorem ccall_ok{C:Cfg}(hC:CfgOK C P){call:CallF}(hc:FnOK P call):FnOK P (ccall C call):=by
  intro f args objs r objs' h
  unfold ccall at h
  split at h
  ·cases h
  rename_i F hF
  obtain⟨hf,hname⟩:=hC.G.fn f F hF
  split at h
  ·cases h
  rename_i code hb
  refine⟨⟨F,hf,by rw [hb];rfl,hname⟩,?_⟩
  intro w I pl vs hr hpl ha
  split at h
  ·rename_i p hp
   split at h
   ·rename_i he
    have he':objs=[]:=by simpa using he
    subst he'
    cases hpa:p args with
    | none=>simp [hpa] at h
    | some r2 =>
      simp [hpa] at h
      obtain⟨rfl,rfl⟩:=h
      refine(hC.pu f p hp args r2 hpa w I pl vs (by simpa [numbered] using hr) (fun b=>hpl b (Nat.zero_le _)) ha).mono ?_
      rintro e w' ⟨I',pl',k1,k2,k3⟩
      exact⟨I',pl',by simpa [numbered] using k1,by simpa [numbered] using k2,k3,fun b hb=>by simp at hb⟩
   ·cases h
  ·split at h
   ·rename_i hlen
    let c:Ctx:=⟨w,I,pl,numbered 0 objs,objs.length⟩
    have hvl:=repL_length ha
    have hsr:SR c F.ntmps (numbered 0 args) (numbered 0 objs) [] { tmps:=vs.toArray++Array.replicate (F.ntmps-vs.toArray.size) undef,defers:=[] } w I pl:=by
     refine⟨hr,?_,?_,Stp.refl _ _ _ _,fun _ _=>rfl,by simp [DfOK]⟩
     ·intro t x hx
      rw [look_num] at hx
      obtain⟨v,h1,h2⟩:=repL_get ha hx
      refine⟨v,?_,h2⟩
      have hlt:t<vs.length:=(List.getElem?_eq_some_iff.1 h1).1
      rw [Array.getElem?_append_left (by simpa using hlt)]
      simpa using h1
     ·simp
      omega
    have hss:SS c F.ntmps ⟨numbered 0 args,numbered 0 objs,objs.length,[]⟩ { tmps:=vs.toArray++Array.replicate (F.ntmps-vs.toArray.size) undef,defers:=[] } w I pl:=by
     refine⟨hsr,fun b hb=>⟨hpl b hb,?_⟩,Nat.le_refl _⟩
     rw [look_num]
     exact List.getElem?_eq_none hb
    have hx:=exec_ok (c:=c) (E:=⟨C.G,call,F.ntmps,C.fuel,C.drawR (call) F.ntmps⟩) hC.G (hc) (hC.draw _ (hc) _) code _ _ _ _ _ I pl h hss
    have hcalls:=calls_of_wp_defers hf hb (R:=fun e w'=>Post c r objs' e w') (wp_mono hx (fun e a w' hat=>finish_ok hC.G hC.cat (c:=c) hpl hat))
    refine hcalls.mono ?_
    rintro e w' ⟨I',pl',k1,k2,k3,k4⟩
    exact⟨I',pl',k1,k2,k3,k4⟩
   ·cases h
end
def bcall(C:Cfg)(call:CallF):Nat→CallF
 | 0,_,_,_=>none
 | n+1,f,args,objs=>match call f args objs with
   | some r=>some r
   | none=>ccall C (bcall C call n) f args objs
theorem bcall_ok{P:Program}{C:Cfg}(hC:CfgOK C P){call:CallF}(hc:FnOK P call):∀ n,FnOK P (bcall C call n)
 | 0,f,args,objs,r,objs',h=>by cases h
 | n+1,f,args,objs,r,objs',h=>by
   unfold bcall at h
   split at h
   ·rename_i r2 hr
    injection h with h
    subst h
    exact hc f args objs r objs' hr
   ·exact ccall_ok hC (bcall_ok hC hc n) f args objs r objs' h
theorem at_ok{P:Program}{C:Cfg}(hC:CfgOK C P){l:List Ent}(hl:∀ e∈l,FnAt P e.f e.args e.objs e.r e.objs'){e:Ent}{n:Nat}(h:ccall C (bcall C (memo l) n) e.f e.args e.objs=some (e.r,e.objs')):∀ x∈e::l,FnAt P x.f x.args x.objs x.r x.objs':=by
 intro x hx
 rcases List.mem_cons.1 hx with rfl|hx
 ·exact ccall_ok hC (bcall_ok hC (memo_ok hl) n) _ _ _ _ _ h
 ·exact hl x hx
end Go.Proofs.YtdhcgankmhpgeaaGreat.M
