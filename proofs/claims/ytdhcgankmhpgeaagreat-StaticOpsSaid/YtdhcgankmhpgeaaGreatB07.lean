import Derived.Test.YtdhcgankmhpgeaaGreatB05
import Derived.Maps.AppendAt
import Derived.Laws.Rows
import Derived.WalkKit
import Derived.Lib.LazyBuf
import Derived.Shelf.Strings.Search1
import Derived.Shelf.Strings.Search2
import Derived.Shelf.Strings.Search3
import Derived.Shelf.GgClosure.StringsIndexFunc
import Derived.Ground.GgwProg
import Derived.Shelf.GgClosure.StringsIndexFuncTop
import Derived.Test.YtdhcgankmhpgeaaGreatProg
set_option linter.all false
namespace Go.Proofs.YtdhcgankmhpgeaaGreat.M
open Go Go.RowKit
set_option maxRecDepth 100000
theorem clone115(A:Option Addr)(c:Nat)(w:World):Calls Tryz.prog 115 #[.slice A 0 c] w fun e w'=>∃ B,e = .returned (.slice B 0 0)∧Below w.heap.size w w':=by
 have hu:Tryz.prog.underlying 30=some (.slice 162):=by kernel_rfl
 cases A with
 | none =>
   have he:(binOp .eql 30 (.slice none 0 c) (.slice none 0 0)).run Tryz.prog w = .ok (.bool true) w:=Go.run_eql_slice_nil w 30 162 none 0 c hu
   clear hu
   go_enter Tryz.func115,Tryz.ntmps115
   go_wp2
   go_ret
   exact⟨_,rfl,Below.refl _ _⟩
 | some ad =>
   have he:(binOp .eql 30 (.slice (some ad) 0 c) (.slice none 0 0)).run Tryz.prog w = .ok (.bool false) w:=Go.run_eql_slice_nil w 30 162 (some ad) 0 c hu
   clear hu
   go_enter Tryz.func115,Tryz.ntmps115
   go_wp2_with fail
   go_ret
   exact⟨_,rfl,(Below.refl _ _).alloc (Nat.le_refl _) _⟩
theorem cloneIs115:∃ fn,Tryz.prog.funcs[(115:Nat)]?=some fn∧fn.body.isNone=false∧(fn.name == "runtime.NumGoroutine")=false:=⟨Tryz.f115,Tryz.func115,by kernel_rfl,by kernel_rfl⟩
theorem clone116(A:Option Addr)(c:Nat)(w:World):Calls Tryz.prog 116 #[.slice A 0 c] w fun e w'=>∃ B,e = .returned (.slice B 0 0)∧Below w.heap.size w w':=by
 have hu:Tryz.prog.underlying 23=some (.slice 33):=by kernel_rfl
 cases A with
 | none =>
   have he:(binOp .eql 23 (.slice none 0 c) (.slice none 0 0)).run Tryz.prog w = .ok (.bool true) w:=Go.run_eql_slice_nil w 23 33 none 0 c hu
   clear hu
   go_enter Tryz.func116,Tryz.ntmps116
   go_wp2
   go_ret
   exact⟨_,rfl,Below.refl _ _⟩
 | some ad =>
   have he:(binOp .eql 23 (.slice (some ad) 0 c) (.slice none 0 0)).run Tryz.prog w = .ok (.bool false) w:=Go.run_eql_slice_nil w 23 33 (some ad) 0 c hu
   clear hu
   go_enter Tryz.func116,Tryz.ntmps116
   go_wp2_with fail
   go_ret
   exact⟨_,rfl,(Below.refl _ _).alloc (Nat.le_refl _) _⟩
theorem cloneIs116:∃ fn,Tryz.prog.funcs[(116:Nat)]?=some fn∧fn.body.isNone=false∧(fn.name == "runtime.NumGoroutine")=false:=⟨Tryz.f116,Tryz.func116,by kernel_rfl,by kernel_rfl⟩
theorem clone152(A:Option Addr)(c:Nat)(w:World):Calls Tryz.prog 152 #[.slice A 0 c] w fun e w'=>∃ B,e = .returned (.slice B 0 0)∧Below w.heap.size w w':=by
 have hu:Tryz.prog.underlying 35=some (.slice 9):=by kernel_rfl
 cases A with
 | none =>
   have he:(binOp .eql 35 (.slice none 0 c) (.slice none 0 0)).run Tryz.prog w = .ok (.bool true) w:=Go.run_eql_slice_nil w 35 9 none 0 c hu
   clear hu
   go_enter Tryz.func152,Tryz.ntmps152
   go_wp2
   go_ret
   exact⟨_,rfl,Below.refl _ _⟩
 | some ad =>
   have he:(binOp .eql 35 (.slice (some ad) 0 c) (.slice none 0 0)).run Tryz.prog w = .ok (.bool false) w:=Go.run_eql_slice_nil w 35 9 (some ad) 0 c hu
   clear hu
   go_enter Tryz.func152,Tryz.ntmps152
   go_wp2_with fail
   go_ret
   exact⟨_,rfl,(Below.refl _ _).alloc (Nat.le_refl _) _⟩
theorem cloneIs152:∃ fn,Tryz.prog.funcs[(152:Nat)]?=some fn∧fn.body.isNone=false∧(fn.name == "runtime.NumGoroutine")=false:=⟨Tryz.f152,Tryz.func152,by kernel_rfl,by kernel_rfl⟩
theorem clone153(A:Option Addr)(c:Nat)(w:World):Calls Tryz.prog 153 #[.slice A 0 c] w fun e w'=>∃ B,e = .returned (.slice B 0 0)∧Below w.heap.size w w':=by
 have hu:Tryz.prog.underlying 36=some (.slice 38):=by kernel_rfl
 cases A with
 | none =>
   have he:(binOp .eql 36 (.slice none 0 c) (.slice none 0 0)).run Tryz.prog w = .ok (.bool true) w:=Go.run_eql_slice_nil w 36 38 none 0 c hu
   clear hu
   go_enter Tryz.func153,Tryz.ntmps153
   go_wp2
   go_ret
   exact⟨_,rfl,Below.refl _ _⟩
 | some ad =>
   have he:(binOp .eql 36 (.slice (some ad) 0 c) (.slice none 0 0)).run Tryz.prog w = .ok (.bool false) w:=Go.run_eql_slice_nil w 36 38 (some ad) 0 c hu
   clear hu
   go_enter Tryz.func153,Tryz.ntmps153
   go_wp2_with fail
   go_ret
   exact⟨_,rfl,(Below.refl _ _).alloc (Nat.le_refl _) _⟩
theorem cloneIs153:∃ fn,Tryz.prog.funcs[(153:Nat)]?=some fn∧fn.body.isNone=false∧(fn.name == "runtime.NumGoroutine")=false:=⟨Tryz.f153,Tryz.func153,by kernel_rfl,by kernel_rfl⟩
theorem clone177(A:Option Addr)(c:Nat)(w:World):Calls Tryz.prog 177 #[.slice A 0 c] w fun e w'=>∃ B,e = .returned (.slice B 0 0)∧Below w.heap.size w w':=by
 have hu:Tryz.prog.underlying 34=some (.slice 40):=by kernel_rfl
 cases A with
 | none =>
   have he:(binOp .eql 34 (.slice none 0 c) (.slice none 0 0)).run Tryz.prog w = .ok (.bool true) w:=Go.run_eql_slice_nil w 34 40 none 0 c hu
   clear hu
   go_enter Tryz.func177,Tryz.ntmps177
   go_wp2
   go_ret
   exact⟨_,rfl,Below.refl _ _⟩
 | some ad =>
   have he:(binOp .eql 34 (.slice (some ad) 0 c) (.slice none 0 0)).run Tryz.prog w = .ok (.bool false) w:=Go.run_eql_slice_nil w 34 40 (some ad) 0 c hu
   clear hu
   go_enter Tryz.func177,Tryz.ntmps177
   go_wp2_with fail
   go_ret
   exact⟨_,rfl,(Below.refl _ _).alloc (Nat.le_refl _) _⟩
theorem cloneIs177:∃ fn,Tryz.prog.funcs[(177:Nat)]?=some fn∧fn.body.isNone=false∧(fn.name == "runtime.NumGoroutine")=false:=⟨Tryz.f177,Tryz.func177,by kernel_rfl,by kernel_rfl⟩
def cloneF(f:Nat):Bool:=Nat.beq f 115||Nat.beq f 116||Nat.beq f 152||Nat.beq f 153||Nat.beq f 177
def cloneK:CallF:=fun f args objs=>match args,objs with
 | [.sl n []],[]=>if cloneF f then some (.ret (.sl n []),[]) else none
 | _,_=>none
theorem fnat_empty {f n:Nat} (hf:∃ fn,Tryz.prog.funcs[f]?=some fn∧fn.body.isNone=false∧(fn.name == "runtime.NumGoroutine")=false)
  (h:∀(A:Option Addr)(c:Nat)(w:World),Calls Tryz.prog f #[.slice A 0 c] w fun e w'=>∃ B,e = .returned (.slice B 0 0)∧Below w.heap.size w w'):FnAt Tryz.prog f [.sl n []] [] (.ret (.sl n [])) []:=by
 refine⟨hf,fun w I pl vs hr hpl ha=>?_⟩
 simp only [RepL,Rep] at ha
 obtain⟨v,vs',rfl,⟨a,m,c,rfl,h1,h2,h3,_⟩,rfl⟩:=ha
 simp only [List.length_nil] at h1
 subst h1
 refine(h a c w).mono ?_
 rintro e w' ⟨B,rfl,hb⟩
 obtain⟨g1,g2⟩:=HR.grow hr hb
 refine⟨I,pl,g2,g1,⟨_,rfl,?_⟩,fun b hb'=>rfl⟩
 ·simp only [Rep]
  exact⟨B,0,0,rfl,rfl,Nat.le_refl _,Nat.zero_le _,.inl trivial⟩
theorem cloneK_ok:FnOK Tryz.prog cloneK:=by
 intro f args objs r objs' h
 unfold cloneK at h
 split at h
 ·split at h
  ·rename_i hc
   injection h with h
   injection h with h1 h2
   subst h1 h2
   unfold cloneF at hc
   simp only [Bool.or_eq_true] at hc
   rcases hc with (((h|h)|h)|h)|h
   ·have:=Nat.eq_of_beq_eq_true h
    subst this
    exact fnat_empty cloneIs115 clone115
   ·have:=Nat.eq_of_beq_eq_true h
    subst this
    exact fnat_empty cloneIs116 clone116
   ·have:=Nat.eq_of_beq_eq_true h
    subst this
    exact fnat_empty cloneIs152 clone152
   ·have:=Nat.eq_of_beq_eq_true h
    subst this
    exact fnat_empty cloneIs153 clone153
   ·have:=Nat.eq_of_beq_eq_true h
    subst this
    exact fnat_empty cloneIs177 clone177
  ·cases h
 ·cases h
end Go.Proofs.YtdhcgankmhpgeaaGreat.M
namespace Go.Proofs.YtdhcgankmhpgeaaGreat.M
open Go Go.RowKit
section
variable {P : Program}
theorem run_zeros(w:World)(t ti ty e:TypeId)(i:TypeInfo)(z:Value)(ht:P.underlying t=some (.slice e)){k:IntKind}(hti:P.underlying ti=some (.int k))(hi:P.info? e=some i)(hz:i.zero=some z)(hs:i.size=1)(hb:i.bytes=1)(hzs:z.cells.size=1)(m:Nat)(h1:1≤m)(hm:m≤1000) :
  (Builtin.append_ #[t,ti] ty #[.slice none 0 0,.int .i64 m]).run P w = .ok (.slice (some ⟨w.heap.size,0,none⟩) m (grownCap w m 0 e)) (w.drew.alloc (.cells (Builtin.zeroCells z.cells m++Builtin.zeroCells z.cells (grownCap w m 0 e-m)) e)):=by
 have hbytes:m*i.bytes≤140737488355328:=by rw [hb];omega
 have hw:IntKind.i64.wrap (m:Int)=m:=by rw [IntKind.wrap_i64];omega
 have hneg:¬ ((m:Int)<0):=by omega
 have hbig:¬ (281474976710656<(m:Int)*(i.bytes:Int)):=by
  rw [← Int.natCast_mul]
  omega
 have hn:¬ (m≤0):=by omega
 have hn2:¬ (m=0):=by omega
 have h63':¬ (9223372036854775807<(m:Int)):=by omega
 have hfit:=growslice_fits (show 0<m by omega) hbytes
 have h48':¬ (281474976710656<Builtin.nextslicecap m 0*i.bytes):=by omega
 have hmz:¬ (m*i.size=0):=Nat.mul_ne_zero hn2 (by omega)
 simp [Builtin.append_,Builtin.firstCells,run_underlying ht,run_underlying hti,sizeOf,typeInfo,zeroValue,hi,hz,asInt,asIntOf,hw,hneg,hbig,hn,hn2,h63',h48',Question.forced,newRow,grownCap,hmz]
end
theorem info162:∃ i,Tryz.prog.info? 162=some i∧i.zero=some (.int .u8 0)∧i.size=1∧i.bytes=1:=by
 have h:(Tryz.prog.info? 162).map (fun i=>(i.zero,i.size,i.bytes))=some (some (.int .u8 0),1,1):=by kernel_rfl
 obtain⟨i,hi,hz⟩:=Option.map_eq_some_iff.1 h
 simp only [Prod.mk.injEq] at hz
 exact⟨i,hi,hz.1,hz.2.1,hz.2.2⟩
theorem zeros_nil(w:World)(m:Nat)(h1:1≤m)(hm:m≤1000):∃ c w',(Builtin.append_ #[30,3] 30 #[.slice none 0 0,.int .i64 m]).run Tryz.prog w = .ok (.slice (some ⟨w.heap.size,0,none⟩) m c) w' ∧
  m≤c∧w'.ownsRow 0 162 1 (.slice (some ⟨w.heap.size,0,none⟩) 0 c) 0 []∧w.grownBy w' none:=by
 obtain⟨i,hi,hz,hs,hb⟩:=info162
 have hr:=run_zeros w 30 3 30 162 i (.int .u8 0) Tryz.underlying30 Tryz.underlying3 hi hz hs hb rfl m h1 hm
 have hge:=grownCap_ge w m 0 162
 refine⟨_,_,hr,hge,⟨rfl,.inr ⟨w.heap.size,_,_,rfl,Nat.zero_le _,heap_alloc_new w.drew _,Nat.zero_le _,grownCap_le_maxLen w m 0 162 (by simp only [maxLen];omega),?_,rfl⟩⟩,⟨rfl,rfl,rfl,by simp,fun k hk _=>heap_alloc_old w.drew _ hk⟩⟩
 simp only [Array.size_append,size_zeroCells,Nat.mul_one]
 show m*1+(_-m)*1=_
 omega
section
variable {ops : Array Oper} {rest : List Oper} {o : Oper} {a : Act} {Q : Exit → Act → World → Prop}
theorem wp_zeros_nil{W:World}(hgd:o.guard=none)(s x:Operand)(ho:o.op = .call { callee := .builtin .append,args:=#[s,x],argTypes:=#[30,3] })(hty:o.type=30)
  (m:Nat) (hs:a.eval s = .slice none 0 0) (hx:a.eval x = .int .i64 m) (h1:1≤m) (hm:m≤1000)
  (h:∀ c W',m≤c→W'.ownsRow 0 162 1 (.slice (some ⟨W.heap.size,0,none⟩) 0 c) 0 []→W.grownBy W' none→wpList Tryz.prog ops Q rest (a.put o.dst (.slice (some ⟨W.heap.size,0,none⟩) m c)) W') :
  wpList Tryz.prog ops Q (o::rest) a W:=by
 obtain⟨c,W',hr1,hc,ho1,hg⟩:=zeros_nil W m h1 hm
 refine wpList_plain hgd fun K hK=>?_
 unfold Oper.wp execOp
 simp only [ho,hty,resolve,invoke,builtin,Sem.run_bind,Sem.run_pure,Result.andThen_ok,List.map_toArray,List.map_cons,List.map_nil,hs,hx,hr1]
 exact hK _ _ (h c W' hc ho1 hg)
end
set_option maxRecDepth 100000 in
theorem grow_calls(n:Nat)(w:World)(h1:1≤n)(hn:n≤1000) :
  Calls Tryz.prog 333 #[.slice none 0 0,.int .i64 n] w fun e w'=>∃ c,e = .returned (.slice (some ⟨w.heap.size,0,none⟩) 0 c)∧w'.ownsRow 0 162 1 (.slice (some ⟨w.heap.size,0,none⟩) 0 c) 0 []∧w.grownBy w' none:=by
 go_enter Tryz.func333,Tryz.ntmps333
 go_wp2_with (at_builtin;(refine wp_zeros_nil rfl (.tmp 20) (.tmp 21) rfl rfl n rfl rfl h1 hn ?_;intro c w1 hc ho hg;skip))
 go_ret
 exact⟨_,rfl,ho,hg⟩
theorem growIs:∃ fn,Tryz.prog.funcs[(333:Nat)]?=some fn∧fn.body.isNone=false∧(fn.name == "runtime.NumGoroutine")=false:=⟨Tryz.f333,Tryz.func333,by kernel_rfl,by kernel_rfl⟩
theorem grow_at(n:Nat)(h1:1≤n)(hn:n≤1000):FnAt Tryz.prog 333 [.nils,.int .i64 n] [] (.ret (.row 0 0 0)) [.arr 162 1 []]:=by
 refine⟨growIs,fun w I pl vs hr hpl ha=>?_⟩
 simp only [RepL,Rep] at ha
 obtain⟨_,_,rfl,rfl,_,_,rfl,rfl,rfl⟩:=ha
 refine(grow_calls n w h1 hn).mono ?_
 rintro e w' ⟨c,rfl,ho,hg⟩
 have hb:pl 0=none:=hpl 0 (Nat.zero_le _)
 have hkeep:∀ k,k<w.heap.size→w'.heap[k]?=w.heap[k]?:=fun k hk=>hg.block k hk (by simp)
 obtain⟨x,m1,m2,m3⟩:=own_row (I:=I) (es:=[]) ho rfl (by simp) (by simp [Ones])
 have hadd:=hr.add (w':=w') hb (x:=x) (o := .arr 162 1 []) hg.size hkeep hg.os hg.tape hg.output (fun g sz cap e=>by
  obtain⟨n1,n2⟩:=m3 g sz cap e
  simp only [Value.ownBlock,Option.some.injEq] at n1
  omega) (m2 _ _ (upd_self _ _ _) (by simp [RepL]))
 exact⟨I,upd pl 0 x,hadd.2,hadd.1,⟨_,rfl,m1 _ _ (upd_self _ _ _)⟩,fun b hb'=>by simp at hb'⟩
end Go.Proofs.YtdhcgankmhpgeaaGreat.M
namespace Go.Proofs
open Go.Shelf
def Tryz.lays144_ren:Go.Shelf.Ren:=⟨fun|144=>335|143=>357|219=>361|217=>363|225=>364|224=>365|267=>366|266=>367|314=>368|n=>n,fun|9=>9|4=>4|3=>3|5=>5|46=>299|146=>327|51=>326|n=>n,fun|1=>0|n=>n⟩
theorem Tryz.lays144:Go.Proofs.Lays.n144 Tryz.prog Tryz.lays144_ren:={
 mixed:=by kernel_rfl
 f143:=Tryz.func357.trans (congrArg some (by kernel_rfl))
 f144:=Tryz.func335.trans (congrArg some (by kernel_rfl))
 f217:=Tryz.func363.trans (congrArg some (by kernel_rfl))
 f219:=Tryz.func361.trans (congrArg some (by kernel_rfl))
 f224:=Tryz.func365.trans (congrArg some (by kernel_rfl))
 f225:=Tryz.func364.trans (congrArg some (by kernel_rfl))
 f266:=Tryz.func367.trans (congrArg some (by kernel_rfl))
 f267:=Tryz.func366.trans (congrArg some (by kernel_rfl))
 f314:=Tryz.func368.trans (congrArg some (by kernel_rfl))
 t3:=Tryz.underlying3
 a3:=Tryz.isAgg3
 z3:=Tryz.sizeOf3
 v3:=Tryz.zeroValue3
 t4:=Tryz.underlying4
 a4:=Tryz.isAgg4
 z4:=Tryz.sizeOf4
 v4:=Tryz.zeroValue4
 t5:=Tryz.underlying5
 a5:=Tryz.isAgg5
 z5:=Tryz.sizeOf5
 v5:=Tryz.zeroValue5
 t9:=Tryz.underlying9
 a9:=Tryz.isAgg9
 z9:=Tryz.sizeOf9
 v9:=Tryz.zeroValue9
 t46:=Tryz.underlying299
 a46:=Tryz.isAgg299
 z46:=Tryz.sizeOf299
 v46:=Tryz.zeroValue299
 t51:=Tryz.underlying326
 a51:=Tryz.isAgg326
 z51:=Tryz.sizeOf326
 v51:=Tryz.zeroValue326
 t146:=Tryz.underlying327
 a146:=Tryz.isAgg327
 z146:=Tryz.sizeOf327
 v146:=Tryz.zeroValue327
 g1:=by kernel_rfl }
open Go.RowKit Go.Lib in
open Go.RowKit Go.Lib in
theorem Tryz.strings_Contains(s sub:ByteArray)(m:Int)(w:World)(hs:s.size<4294967281)(hm:w.cell? ⟨0,0,none⟩=some (.int .i64 m)) :
  Calls Tryz.prog 335 #[.string s,.string sub] w fun e w'=>e = .returned (.bool (Lib.contains s.data.toList sub.data.toList))∧w'=w:=Any.strings_Contains Tryz.lays144 s sub m w hs hm
def Tryz.laysGw17_ren:Go.Shelf.Ren:=⟨fun|17=>259|15=>308|20=>334|n=>n,fun|9=>9|23=>268|4=>4|3=>3|0=>0|21=>21|n=>n,fun|n=>n⟩
theorem Tryz.laysGw17:Go.Proofs.LaysGw.n17 Tryz.prog Tryz.laysGw17_ren:={
 mixed:=by kernel_rfl
 f15:=Tryz.func308.trans (congrArg some (by kernel_rfl))
 f17:=Tryz.func259.trans (congrArg some (by kernel_rfl))
 f20:=Tryz.func334.trans (congrArg some (by kernel_rfl))
 t0:=Tryz.underlying0
 a0:=Tryz.isAgg0
 z0:=Tryz.sizeOf0
 v0:=Tryz.zeroValue0
 i0:=by kernel_rfl
 t3:=Tryz.underlying3
 a3:=Tryz.isAgg3
 z3:=Tryz.sizeOf3
 v3:=Tryz.zeroValue3
 i3:=by kernel_rfl
 t4:=Tryz.underlying4
 a4:=Tryz.isAgg4
 z4:=Tryz.sizeOf4
 v4:=Tryz.zeroValue4
 i4:=by kernel_rfl
 t9:=Tryz.underlying9
 a9:=Tryz.isAgg9
 z9:=Tryz.sizeOf9
 v9:=Tryz.zeroValue9
 i9:=by kernel_rfl
 t21:=Tryz.underlying21
 a21:=Tryz.isAgg21
 z21:=Tryz.sizeOf21
 v21:=Tryz.zeroValue21
 i21:=by kernel_rfl
 t23:=Tryz.underlying268
 a23:=Tryz.isAgg268
 z23:=Tryz.sizeOf268
 v23:=Tryz.zeroValue268
 i23:=by kernel_rfl }
open Go.RowKit Go.Lib in
theorem Tryz.strings_ContainsFunc(g:Nat)(lb:Array Value)(eg:∀ args w,(callFunc g args).run Tryz.prog w = .ok (.enter g args) w)(p:Nat→Bool)(s:ByteArray)(w:World)(hp:PredAt Tryz.prog g lb encR p w) :
  Calls Tryz.prog 259 #[.string s,.func (.func g) #[] lb] w fun e w'=>e = .returned (.bool (decide (0≤Lib.idxFunc p true s)))∧Below w.heap.size w w':=Any.strings_ContainsFunc Tryz.laysGw17 g lb eg p s w hp
end Go.Proofs
namespace Go.Proofs.YtdhcgankmhpgeaaGreat.M
open Go Go.RowKit
def oddN(x:Nat):Bool := !((decide (97≤x)&&decide (x≤122))||((decide (65≤x)&&decide (x≤90))||((decide (48≤x)&&decide (x≤57))||(decide (x=95)||decide (x=46)))))
theorem odd_hi{x:Nat}(h:128≤x):oddN x=true:=by
 unfold oddN
 simp
 omega
theorem decode_lo{s:ByteArray}{i:Nat}(h:(s.get! i).toNat<128):Utf8.decode s i=((s.get! i).toNat,1):=by
 unfold Utf8.decode
 simp only [Nat.add_zero]
 rw [if_pos h]
theorem decode_hi{s:ByteArray}{i:Nat}(h:¬ (s.get! i).toNat<128):128≤(Utf8.decode s i).1:=by
 unfold Utf8.decode
 simp only [Nat.add_zero]
 rw [if_neg h]
 have e:128≤Utf8.runeError:=by decide
 repeat' split
 all_goals simp_all
 all_goals omega
theorem idx_from(t:ByteArray):∀ f pos,t.size-pos≤f→decide (0≤Lib.idxFuncFrom oddN true t f pos)=(t.data.toList.drop pos).any fun b=>oddN b.toNat
 | 0,pos,h=>by
   have:t.data.toList.drop pos=[]:=List.drop_eq_nil_of_le (by have:t.data.toList.length=t.size:=(by simp);omega)
   rw [this]
   rfl
 | f+1,pos,h=>by
   unfold Lib.idxFuncFrom
   by_cases hp:pos<t.size
   ·have hl:pos<t.data.toList.length:=by simpa using hp
    have hg:t.get! pos=t.data.toList[pos]:=by
     have:pos<t.data.size:=hp
     simp only [ByteArray.get!]
     rw [getElem!_pos t.data pos this]
     rfl
    rw [if_pos hp,List.drop_eq_getElem_cons hl,List.any_cons,← hg]
    by_cases hb:(t.get! pos).toNat<128
    ·rw [decode_lo hb]
     simp only
     by_cases ho:oddN (t.get! pos).toNat=true
     ·rw [if_pos ho,ho]
      simp
     ·rw [if_neg ho,idx_from t f (pos+1) (by omega)]
      simp only [Bool.not_eq_true] at ho
      rw [ho]
      rfl
    ·rw [if_pos (odd_hi (decode_hi hb)),odd_hi (by omega)]
     simp
   ·have:t.data.toList.drop pos=[]:=List.drop_eq_nil_of_le (by have:t.data.toList.length=t.size:=(by simp);omega)
    rw [if_neg hp,this]
    rfl
theorem idx_any(t:ByteArray):decide (0≤Lib.idxFunc oddN true t)=t.data.toList.any fun b=>oddN b.toNat:=by
 unfold Lib.idxFunc
 rw [idx_from t _ _ (by omega),List.drop_zero]
set_option maxHeartbeats 4000000 in
theorem odd_walk(x:Nat)(w:World):Calls Tryz.prog 260 #[.int .i32 (x:Int)] w fun e w'=>e = .returned (.bool (oddN x))∧w'=w:=by
 have hh:∃ a b c d e f:Bool,decide ((97:Int)≤(x:Int))=a∧decide ((x:Int)≤122)=b∧decide ((65:Int)≤(x:Int))=c∧decide ((x:Int)≤90)=d∧decide ((48:Int)≤(x:Int))=e∧decide ((x:Int)≤57)=f ∧
   ((a,b,c,d,e,f)=(true,true,true,false,true,false)∨(a,b,c,d,e,f)=(true,false,true,false,true,false)∨(a,b,c,d,e,f)=(false,true,true,true,true,false)∨(a,b,c,d,e,f)=(false,true,true,false,true,false) ∨
    (a,b,c,d,e,f)=(false,true,false,true,true,true)∨(a,b,c,d,e,f)=(false,true,false,true,true,false)∨(a,b,c,d,e,f)=(false,true,false,true,false,true)):=by
  refine⟨_,_,_,_,_,_,rfl,rfl,rfl,rfl,rfl,rfl,?_⟩
  simp only [Prod.mk.injEq,decide_eq_true_eq,decide_eq_false_iff_not]
  omega
 obtain⟨a,b,c,d,e,f,d1,d2,d3,d4,d5,d6,hh⟩:=hh
 simp only [Prod.mk.injEq] at hh
 have fin:∀ z:Bool,(z=true↔oddN x=true)→z=oddN x:=fun z hz=>by cases z<;>cases h:oddN x<;>simp_all
 rcases hh with ⟨rfl,rfl,rfl,rfl,rfl,rfl⟩|⟨rfl,rfl,rfl,rfl,rfl,rfl⟩|⟨rfl,rfl,rfl,rfl,rfl,rfl⟩|⟨rfl,rfl,rfl,rfl,rfl,rfl⟩|⟨rfl,rfl,rfl,rfl,rfl,rfl⟩|⟨rfl,rfl,rfl,rfl,rfl,rfl⟩|⟨rfl,rfl,rfl,rfl,rfl,rfl⟩
 all_goals
  go_enter Tryz.func260,Tryz.ntmps260
  go_wp2
 all_goals
  go_ret
  refine⟨?_,rfl⟩
  simp only [decide_eq_true_eq,decide_eq_false_iff_not] at d1 d2 d3 d4 d5 d6
  refine congrArg (fun b=>Ending.returned (Value.bool b)) (fin _ ?_)
  simp [oddN]
  try omega
def contD(s t:List UInt8):Bool:=Go.Lib.contains s t
def libF(f:Nat):Bool:=Nat.beq f 335||Nat.beq f 259||Nat.beq f 333
def libK:CallF:=fun f args objs=>match args with
 | [.str s,.str t]=>if Nat.beq f 335&&Nat.blt s.length 4294967281 then some (.ret (.bool (contD s t)),objs) else none
 | [.str s,.fn g []]=>if Nat.beq f 259&&Nat.beq g 260 then some (.ret (.bool (s.any fun b=>oddN b.toNat)),objs) else none
 | [.nils,.int .i64 n]=>match objs with
   | []=>if Nat.beq f 333&&(decide (1≤n)&&decide (n≤1000)) then some (.ret (.row 0 0 0),[.arr 162 1 []]) else none
   | _=>none
 | _=>none
theorem libK_ok:FnOK Tryz.prog libK:=by
 intro f args objs r objs' h
 unfold libK at h
 split at h
 ·rename_i s t
  split at h
  ·rename_i hc
   injection h with h
   injection h with h1 h2
   subst h1 h2
   rw [Bool.and_eq_true] at hc
   have:=Nat.eq_of_beq_eq_true hc.1
   subst this
   have hl:s.length<4294967281:=by simpa [Nat.blt_eq] using hc.2
   refine⟨⟨Tryz.f335,Tryz.func335,by kernel_rfl,by kernel_rfl⟩,fun w I pl vs hr hn hv=>?_⟩
   simp only [RepL,Rep] at hv
   obtain⟨_,_,rfl,⟨a,rfl,rfl⟩,_,_,rfl,⟨b,rfl,rfl⟩,rfl⟩:=hv
   obtain⟨m,hm⟩:=hr.gv.int
   refine(Tryz.strings_Contains a b m w (by simpa using hl) hm).mono ?_
   rintro e w' ⟨rfl,rfl⟩
   refine⟨I,pl,Stp.refl _ _ _ _,hr,⟨_,rfl,?_⟩,fun _ _=>rfl⟩
   simp only [Rep]
   rfl
  ·cases h
 ·rename_i s g
  split at h
  ·rename_i hc
   injection h with h
   injection h with h1 h2
   subst h1 h2
   rw [Bool.and_eq_true] at hc
   have e1:=Nat.eq_of_beq_eq_true hc.1
   have e2:=Nat.eq_of_beq_eq_true hc.2
   subst e1 e2
   refine⟨⟨Tryz.f259,Tryz.func259,by kernel_rfl,by kernel_rfl⟩,fun w I pl vs hr hn hv=>?_⟩
   simp only [RepL,Rep] at hv
   obtain⟨_,_,rfl,⟨a,rfl,rfl⟩,_,_,rfl,⟨us,rfl,hu⟩,rfl⟩:=hv
   subst hu
   refine(Tryz.strings_ContainsFunc 260 #[] (fun _ _=>by kernel_rfl) oddN a w fun W x _=>?_).mono ?_
   ·refine(odd_walk x W).mono ?_
    rintro e w' ⟨rfl,rfl⟩
    exact⟨rfl,0,rfl⟩
   ·rintro e w' ⟨rfl,hb⟩
    obtain⟨g1,g2⟩:=HR.grow hr hb
    refine⟨I,pl,g2,g1,⟨_,rfl,?_⟩,fun _ _=>rfl⟩
    simp only [Rep]
    rw [idx_any]
  ·cases h
 ·rename_i n
  split at h
  ·split at h
   ·rename_i hc
    injection h with h
    injection h with h1 h2
    subst h1 h2
    simp only [Bool.and_eq_true,decide_eq_true_eq] at hc
    have e1:=Nat.eq_of_beq_eq_true hc.1
    subst e1
    obtain⟨m,rfl⟩:=Int.eq_ofNat_of_zero_le (show 0≤n by omega)
    exact grow_at m (by omega) (by omega)
   ·cases h
  ·cases h
 ·cases h
theorem libK_none{f:Nat}{args:List AV}{objs:List Obj'}(h:libF f=false):libK f args objs=none:=by
 unfold libF at h
 simp only [Bool.or_eq_false_iff] at h
 unfold libK
 split
 ·rw [h.1.1]
  rfl
 ·rw [h.1.2]
  rfl
 ·split
  ·rw [h.2]
   rfl
  ·rfl
 ·rfl
end Go.Proofs.YtdhcgankmhpgeaaGreat.M
