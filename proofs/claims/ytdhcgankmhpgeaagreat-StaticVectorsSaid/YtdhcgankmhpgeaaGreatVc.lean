/- M, the twenty-fourth text: what is looked up of this program. -/
import Derived.Test.YtdhcgankmhpgeaaGreatVb
import Derived.Test.YtdhcgankmhpgeaaGreatProg
import Derived.KernelRfl
import Derived.Recover
import Derived.Tactics
import Derived.Tactics2
import Derived.Defers
import Derived.Laws.Pointers
import Derived.WalkKit
namespace Go.Proofs.YtdhcgankmhpgeaaGreat.M
open Go
set_option linter.unusedVariables false
set_option linter.unusedSimpArgs false
set_option linter.constructorNameAsVariable false
/-! a tree of what is looked up by number -/
inductive Tr (α : Type) where
  | leaf
  | node (k : Nat) (x : α) (l r : Tr α)
def Tr.find {α : Type} (n : Nat) : Tr α → Option α
  | .leaf => none
  | .node k x l r => if Nat.beq n k then some x else if Nat.blt n k then l.find n else r.find n
def Tr.All {α : Type} (p : Nat → α → Prop) : Tr α → Prop
  | .leaf => True
  | .node k x l r => p k x ∧ l.All p ∧ r.All p
theorem Tr.find_all {α : Type} {p : Nat → α → Prop} {n : Nat} {x : α} : ∀ {t : Tr α}, t.All p → t.find n = some x → p n x
  | .leaf, _, h => by cases h
  | .node k y l r, ⟨h1, h2, h3⟩, h => by
    unfold Tr.find at h
    split at h
    · rename_i e
      have := Nat.eq_of_beq_eq_true e
      subst this
      injection h with h
      subst h
      exact h1
    · split at h
      · exact Tr.find_all h2 h
      · exact Tr.find_all h3 h
def isAggD : TypeDesc → Bool
  | .struct _ | .array _ _ => true
  | _ => false
def isAggV : Value → Bool
  | .agg _ => true
  | _ => false
def tyOf (P : Program) (t : Nat) : Option TI :=
  match P.underlying t, P.info? t with
  | some d, some inf => match inf.zero with
    | some z => match z.cells.toList.mapM ofS with
      | some zs => if z.cells.size = inf.size ∧ isAggV z = isAggD d then some ⟨d, inf.size, inf.bytes, zs⟩ else none
      | none => none
    | none => none
  | _, _ => none
theorem tyOf_ok {P : Program} {t : Nat} {i : TI} (h : tyOf P t = some i) : TyOK P t i := by
  unfold tyOf at h
  split at h
  · rename_i d inf hd hi
    split at h
    · rename_i z hz
      split at h
      · rename_i zs hzs
        split at h
        · rename_i hc
          injection h with h
          subst h
          refine ⟨hd, inf, z, hi, rfl, rfl, hz, hzs, hc.1, ?_⟩
          have e : TI.agg ⟨d, inf.size, inf.bytes, zs⟩ = isAggV z := by
            rw [hc.2]
            unfold TI.agg isAggD
            cases d <;> rfl
          rw [e]
          cases z <;> simp [isAggV, Value.cells]
        · cases h
      · cases h
    · cases h
  · cases h
/-! functions: those of the tree, all of the program -/
theorem GOK.of {P : Program} {ty : Tr TI} {fn : Tr Func} {pu : Nat → Option (List AV → Option AE)} (h1 : ty.All fun t i => tyOf P t = some i) (h2 : fn.All fun f F => P.funcs[f]? = some F ∧ (F.name == "runtime.NumGoroutine") = false) :
    GOK ⟨fun t => ty.find t, fun f => fn.find f, pu⟩ P :=
  ⟨fun t i h => tyOf_ok (Tr.find_all h1 h), fun f F h => Tr.find_all h2 h⟩
end Go.Proofs.YtdhcgankmhpgeaaGreat.M
/- M, the twenty-fifth text: the types and the functions of this program, by number. Printed by mktab.py. -/
namespace Go.Proofs.YtdhcgankmhpgeaaGreat.M
open Go
set_option linter.unusedVariables false
noncomputable def ty2 : TI := ⟨Go.TypeDesc.int (Go.IntKind.i64), 1, 8, [.int Go.IntKind.i64 0]⟩
theorem ty2_ok : tyOf Tryz.prog 2 = some ty2 := by kernel_rfl
noncomputable def ty3 : TI := ⟨Go.TypeDesc.int (Go.IntKind.i64), 1, 8, [.int Go.IntKind.i64 0]⟩
theorem ty3_ok : tyOf Tryz.prog 3 = some ty3 := by kernel_rfl
noncomputable def ty4 : TI := ⟨Go.TypeDesc.bool, 1, 1, [.bool false]⟩
theorem ty4_ok : tyOf Tryz.prog 4 = some ty4 := by kernel_rfl
noncomputable def ty5 : TI := ⟨Go.TypeDesc.int (Go.IntKind.u8), 1, 1, [.int Go.IntKind.u8 0]⟩
theorem ty5_ok : tyOf Tryz.prog 5 = some ty5 := by kernel_rfl
noncomputable def ty9 : TI := ⟨Go.TypeDesc.string, 1, 16, [.str []]⟩
theorem ty9_ok : tyOf Tryz.prog 9 = some ty9 := by kernel_rfl
noncomputable def ty20 : TI := ⟨Go.TypeDesc.interface #[], 1, 16, [.nilif]⟩
theorem ty20_ok : tyOf Tryz.prog 20 = some ty20 := by kernel_rfl
noncomputable def ty21 : TI := ⟨Go.TypeDesc.int (Go.IntKind.i32), 1, 4, [.int Go.IntKind.i32 0]⟩
theorem ty21_ok : tyOf Tryz.prog 21 = some ty21 := by kernel_rfl
noncomputable def ty22 : TI := ⟨Go.TypeDesc.slice 83, 1, 24, [.nils]⟩
theorem ty22_ok : tyOf Tryz.prog 22 = some ty22 := by kernel_rfl
noncomputable def ty23 : TI := ⟨Go.TypeDesc.slice 33, 1, 24, [.nils]⟩
theorem ty23_ok : tyOf Tryz.prog 23 = some ty23 := by kernel_rfl
noncomputable def ty24 : TI := ⟨Go.TypeDesc.slice 4, 1, 24, [.nils]⟩
theorem ty24_ok : tyOf Tryz.prog 24 = some ty24 := by kernel_rfl
noncomputable def ty26 : TI := ⟨Go.TypeDesc.struct #[{ name := "Vals", type := 23, offset := 0, embedded := false, tag := "", pkgPath := "", byteOffset := 0 }, { name := "Before", type := 23, offset := 1, embedded := false, tag := "", pkgPath := "", byteOffset := 24 }, { name := "Event", type := 24, offset := 2, embedded := false, tag := "", pkgPath := "", byteOffset := 48 }, { name := "Time", type := 3, offset := 3, embedded := false, tag := "", pkgPath := "", byteOffset := 72 }], 4, 80, [.nils, .nils, .nils, .int Go.IntKind.i64 0]⟩
theorem ty26_ok : tyOf Tryz.prog 26 = some ty26 := by kernel_rfl
noncomputable def ty28 : TI := ⟨Go.TypeDesc.struct #[{ name := "Funs", type := 22, offset := 0, embedded := false, tag := "", pkgPath := "", byteOffset := 0 }, { name := "Vars", type := 23, offset := 1, embedded := false, tag := "", pkgPath := "", byteOffset := 24 }, { name := "Now", type := 26, offset := 2, embedded := false, tag := "", pkgPath := "", byteOffset := 48 }], 6, 128, [.nils, .nils, .nils, .nils, .nils, .int Go.IntKind.i64 0]⟩
theorem ty28_ok : tyOf Tryz.prog 28 = some ty28 := by kernel_rfl
noncomputable def ty29 : TI := ⟨Go.TypeDesc.int (Go.IntKind.i64), 1, 8, [.int Go.IntKind.i64 0]⟩
theorem ty29_ok : tyOf Tryz.prog 29 = some ty29 := by kernel_rfl
noncomputable def ty30 : TI := ⟨Go.TypeDesc.slice 162, 1, 24, [.nils]⟩
theorem ty30_ok : tyOf Tryz.prog 30 = some ty30 := by kernel_rfl
noncomputable def ty31 : TI := ⟨Go.TypeDesc.int (Go.IntKind.i64), 1, 8, [.int Go.IntKind.i64 0]⟩
theorem ty31_ok : tyOf Tryz.prog 31 = some ty31 := by kernel_rfl
noncomputable def ty33 : TI := ⟨Go.TypeDesc.struct #[{ name := "Kind", type := 31, offset := 0, embedded := false, tag := "", pkgPath := "", byteOffset := 0 }, { name := "N", type := 3, offset := 1, embedded := false, tag := "", pkgPath := "", byteOffset := 8 }, { name := "Bits", type := 30, offset := 2, embedded := false, tag := "", pkgPath := "", byteOffset := 16 }, { name := "List", type := 23, offset := 3, embedded := false, tag := "", pkgPath := "", byteOffset := 40 }], 4, 64, [.int Go.IntKind.i64 0, .int Go.IntKind.i64 0, .nils, .nils]⟩
theorem ty33_ok : tyOf Tryz.prog 33 = some ty33 := by kernel_rfl
noncomputable def ty34 : TI := ⟨Go.TypeDesc.slice 40, 1, 24, [.nils]⟩
theorem ty34_ok : tyOf Tryz.prog 34 = some ty34 := by kernel_rfl
noncomputable def ty35 : TI := ⟨Go.TypeDesc.slice 9, 1, 24, [.nils]⟩
theorem ty35_ok : tyOf Tryz.prog 35 = some ty35 := by kernel_rfl
noncomputable def ty36 : TI := ⟨Go.TypeDesc.slice 38, 1, 24, [.nils]⟩
theorem ty36_ok : tyOf Tryz.prog 36 = some ty36 := by kernel_rfl
noncomputable def ty38 : TI := ⟨Go.TypeDesc.struct #[{ name := "Kind", type := 31, offset := 0, embedded := false, tag := "", pkgPath := "", byteOffset := 0 }, { name := "Len", type := 3, offset := 1, embedded := false, tag := "", pkgPath := "", byteOffset := 8 }, { name := "Name", type := 9, offset := 2, embedded := false, tag := "", pkgPath := "", byteOffset := 16 }, { name := "Names", type := 35, offset := 3, embedded := false, tag := "", pkgPath := "", byteOffset := 32 }, { name := "Elem", type := 36, offset := 4, embedded := false, tag := "", pkgPath := "", byteOffset := 56 }], 5, 80, [.int Go.IntKind.i64 0, .int Go.IntKind.i64 0, .str [], .nils, .nils]⟩
theorem ty38_ok : tyOf Tryz.prog 38 = some ty38 := by kernel_rfl
noncomputable def ty40 : TI := ⟨Go.TypeDesc.struct #[{ name := "Op", type := 29, offset := 0, embedded := false, tag := "", pkgPath := "", byteOffset := 0 }, { name := "Name", type := 9, offset := 1, embedded := false, tag := "", pkgPath := "", byteOffset := 8 }, { name := "N", type := 3, offset := 2, embedded := false, tag := "", pkgPath := "", byteOffset := 24 }, { name := "Bits", type := 30, offset := 3, embedded := false, tag := "", pkgPath := "", byteOffset := 32 }, { name := "Val", type := 33, offset := 4, embedded := false, tag := "", pkgPath := "", byteOffset := 56 }, { name := "Kids", type := 34, offset := 8, embedded := false, tag := "", pkgPath := "", byteOffset := 120 }, { name := "Type", type := 38, offset := 9, embedded := false, tag := "", pkgPath := "", byteOffset := 144 }, { name := "Line", type := 3, offset := 14, embedded := false, tag := "", pkgPath := "", byteOffset := 224 }, { name := "Col", type := 3, offset := 15, embedded := false, tag := "", pkgPath := "", byteOffset := 232 }], 16, 240, [.int Go.IntKind.i64 0, .str [], .int Go.IntKind.i64 0, .nils, .int Go.IntKind.i64 0, .int Go.IntKind.i64 0, .nils, .nils, .nils, .int Go.IntKind.i64 0, .int Go.IntKind.i64 0, .str [], .nils, .nils, .int Go.IntKind.i64 0, .int Go.IntKind.i64 0]⟩
theorem ty40_ok : tyOf Tryz.prog 40 = some ty40 := by kernel_rfl
noncomputable def ty43 : TI := ⟨Go.TypeDesc.int (Go.IntKind.i64), 1, 8, [.int Go.IntKind.i64 0]⟩
theorem ty43_ok : tyOf Tryz.prog 43 = some ty43 := by kernel_rfl
noncomputable def ty66 : TI := ⟨Go.TypeDesc.array 2 3, 2, 16, [.int Go.IntKind.i64 0, .int Go.IntKind.i64 0]⟩
theorem ty66_ok : tyOf Tryz.prog 66 = some ty66 := by kernel_rfl
noncomputable def ty78 : TI := ⟨Go.TypeDesc.slice 3, 1, 24, [.nils]⟩
theorem ty78_ok : tyOf Tryz.prog 78 = some ty78 := by kernel_rfl
noncomputable def ty79 : TI := ⟨Go.TypeDesc.slice 94, 1, 24, [.nils]⟩
theorem ty79_ok : tyOf Tryz.prog 79 = some ty79 := by kernel_rfl
noncomputable def ty80 : TI := ⟨Go.TypeDesc.slice 366, 1, 24, [.nils]⟩
theorem ty80_ok : tyOf Tryz.prog 80 = some ty80 := by kernel_rfl
noncomputable def ty81 : TI := ⟨Go.TypeDesc.slice 66, 1, 24, [.nils]⟩
theorem ty81_ok : tyOf Tryz.prog 81 = some ty81 := by kernel_rfl
noncomputable def ty83 : TI := ⟨Go.TypeDesc.struct #[{ name := "Name", type := 9, offset := 0, embedded := false, tag := "", pkgPath := "", byteOffset := 0 }, { name := "Params", type := 3, offset := 1, embedded := false, tag := "", pkgPath := "", byteOffset := 16 }, { name := "Init", type := 34, offset := 2, embedded := false, tag := "", pkgPath := "", byteOffset := 24 }, { name := "Vars", type := 23, offset := 3, embedded := false, tag := "", pkgPath := "", byteOffset := 48 }, { name := "Types", type := 36, offset := 4, embedded := false, tag := "", pkgPath := "", byteOffset := 72 }, { name := "Sens", type := 78, offset := 5, embedded := false, tag := "", pkgPath := "", byteOffset := 96 }, { name := "Own", type := 4, offset := 6, embedded := false, tag := "", pkgPath := "", byteOffset := 120 }, { name := "Body", type := 79, offset := 7, embedded := false, tag := "", pkgPath := "", byteOffset := 128 }, { name := "Code", type := 80, offset := 8, embedded := false, tag := "", pkgPath := "", byteOffset := 152 }, { name := "Drives", type := 81, offset := 9, embedded := false, tag := "", pkgPath := "", byteOffset := 176 }, { name := "Reads", type := 78, offset := 10, embedded := false, tag := "", pkgPath := "", byteOffset := 200 }, { name := "Result", type := 36, offset := 11, embedded := false, tag := "", pkgPath := "", byteOffset := 224 }], 12, 248, [.str [], .int Go.IntKind.i64 0, .nils, .nils, .nils, .nils, .bool false, .nils, .nils, .nils, .nils, .nils]⟩
theorem ty83_ok : tyOf Tryz.prog 83 = some ty83 := by kernel_rfl
noncomputable def ty85 : TI := ⟨Go.TypeDesc.func #[40] #[4] false, 1, 8, [.nilfn]⟩
theorem ty85_ok : tyOf Tryz.prog 85 = some ty85 := by kernel_rfl
noncomputable def ty89 : TI := ⟨Go.TypeDesc.int (Go.IntKind.i64), 1, 8, [.int Go.IntKind.i64 0]⟩
theorem ty89_ok : tyOf Tryz.prog 89 = some ty89 := by kernel_rfl
noncomputable def ty90 : TI := ⟨Go.TypeDesc.slice 237, 1, 24, [.nils]⟩
theorem ty90_ok : tyOf Tryz.prog 90 = some ty90 := by kernel_rfl
noncomputable def ty91 : TI := ⟨Go.TypeDesc.slice 34, 1, 24, [.nils]⟩
theorem ty91_ok : tyOf Tryz.prog 91 = some ty91 := by kernel_rfl
noncomputable def ty92 : TI := ⟨Go.TypeDesc.slice 79, 1, 24, [.nils]⟩
theorem ty92_ok : tyOf Tryz.prog 92 = some ty92 := by kernel_rfl
noncomputable def ty94 : TI := ⟨Go.TypeDesc.struct #[{ name := "Op", type := 89, offset := 0, embedded := false, tag := "", pkgPath := "", byteOffset := 0 }, { name := "Name", type := 9, offset := 1, embedded := false, tag := "", pkgPath := "", byteOffset := 8 }, { name := "N", type := 3, offset := 2, embedded := false, tag := "", pkgPath := "", byteOffset := 24 }, { name := "Target", type := 40, offset := 3, embedded := false, tag := "", pkgPath := "", byteOffset := 32 }, { name := "Expr", type := 40, offset := 19, embedded := false, tag := "", pkgPath := "", byteOffset := 272 }, { name := "Last", type := 40, offset := 35, embedded := false, tag := "", pkgPath := "", byteOffset := 512 }, { name := "Waves", type := 90, offset := 51, embedded := false, tag := "", pkgPath := "", byteOffset := 752 }, { name := "Transport", type := 4, offset := 52, embedded := false, tag := "", pkgPath := "", byteOffset := 776 }, { name := "Conds", type := 34, offset := 53, embedded := false, tag := "", pkgPath := "", byteOffset := 784 }, { name := "Choices", type := 91, offset := 54, embedded := false, tag := "", pkgPath := "", byteOffset := 808 }, { name := "Bodies", type := 92, offset := 55, embedded := false, tag := "", pkgPath := "", byteOffset := 832 }, { name := "On", type := 34, offset := 56, embedded := false, tag := "", pkgPath := "", byteOffset := 856 }, { name := "Until", type := 34, offset := 57, embedded := false, tag := "", pkgPath := "", byteOffset := 880 }, { name := "For", type := 34, offset := 58, embedded := false, tag := "", pkgPath := "", byteOffset := 904 }, { name := "Text", type := 9, offset := 59, embedded := false, tag := "", pkgPath := "", byteOffset := 928 }, { name := "Line", type := 3, offset := 60, embedded := false, tag := "", pkgPath := "", byteOffset := 944 }, { name := "Col", type := 3, offset := 61, embedded := false, tag := "", pkgPath := "", byteOffset := 952 }], 62, 960, [.int Go.IntKind.i64 0, .str [], .int Go.IntKind.i64 0, .int Go.IntKind.i64 0, .str [], .int Go.IntKind.i64 0, .nils, .int Go.IntKind.i64 0, .int Go.IntKind.i64 0, .nils, .nils, .nils, .int Go.IntKind.i64 0, .int Go.IntKind.i64 0, .str [], .nils, .nils, .int Go.IntKind.i64 0, .int Go.IntKind.i64 0, .int Go.IntKind.i64 0, .str [], .int Go.IntKind.i64 0, .nils, .int Go.IntKind.i64 0, .int Go.IntKind.i64 0, .nils, .nils, .nils, .int Go.IntKind.i64 0, .int Go.IntKind.i64 0, .str [], .nils, .nils, .int Go.IntKind.i64 0, .int Go.IntKind.i64 0, .int Go.IntKind.i64 0, .str [], .int Go.IntKind.i64 0, .nils, .int Go.IntKind.i64 0, .int Go.IntKind.i64 0, .nils, .nils, .nils, .int Go.IntKind.i64 0, .int Go.IntKind.i64 0, .str [], .nils, .nils, .int Go.IntKind.i64 0, .int Go.IntKind.i64 0, .nils, .bool false, .nils, .nils, .nils, .nils, .nils, .nils, .str [], .int Go.IntKind.i64 0, .int Go.IntKind.i64 0]⟩
theorem ty94_ok : tyOf Tryz.prog 94 = some ty94 := by kernel_rfl
noncomputable def ty95 : TI := ⟨Go.TypeDesc.pointer 136, 1, 8, [.nilp]⟩
theorem ty95_ok : tyOf Tryz.prog 95 = some ty95 := by kernel_rfl
noncomputable def ty101 : TI := ⟨Go.TypeDesc.pointer 143, 1, 8, [.nilp]⟩
theorem ty101_ok : tyOf Tryz.prog 101 = some ty101 := by kernel_rfl
noncomputable def ty107 : TI := ⟨Go.TypeDesc.slice 322, 1, 24, [.nils]⟩
theorem ty107_ok : tyOf Tryz.prog 107 = some ty107 := by kernel_rfl
noncomputable def ty108 : TI := ⟨Go.TypeDesc.slice 318, 1, 24, [.nils]⟩
theorem ty108_ok : tyOf Tryz.prog 108 = some ty108 := by kernel_rfl
noncomputable def ty110 : TI := ⟨Go.TypeDesc.struct #[{ name := "Funs", type := 22, offset := 0, embedded := false, tag := "", pkgPath := "", byteOffset := 0 }, { name := "Now", type := 26, offset := 1, embedded := false, tag := "", pkgPath := "", byteOffset := 24 }, { name := "Count", type := 3, offset := 5, embedded := false, tag := "", pkgPath := "", byteOffset := 104 }, { name := "Deep", type := 3, offset := 6, embedded := false, tag := "", pkgPath := "", byteOffset := 112 }, { name := "E", type := 43, offset := 7, embedded := false, tag := "", pkgPath := "", byteOffset := 120 }, { name := "Process", type := 4, offset := 8, embedded := false, tag := "", pkgPath := "", byteOffset := 128 }, { name := "Signals", type := 107, offset := 9, embedded := false, tag := "", pkgPath := "", byteOffset := 136 }, { name := "Assigns", type := 108, offset := 10, embedded := false, tag := "", pkgPath := "", byteOffset := 160 }, { name := "Notes", type := 35, offset := 11, embedded := false, tag := "", pkgPath := "", byteOffset := 184 }], 12, 208, [.nils, .nils, .nils, .nils, .int Go.IntKind.i64 0, .int Go.IntKind.i64 0, .int Go.IntKind.i64 0, .int Go.IntKind.i64 0, .bool false, .nils, .nils, .nils]⟩
theorem ty110_ok : tyOf Tryz.prog 110 = some ty110 := by kernel_rfl
noncomputable def ty117 : TI := ⟨Go.TypeDesc.map 9 83, 1, 8, [.nilm]⟩
theorem ty117_ok : tyOf Tryz.prog 117 = some ty117 := by kernel_rfl
noncomputable def ty120 : TI := ⟨Go.TypeDesc.pointer 122, 1, 8, [.nilp]⟩
theorem ty120_ok : tyOf Tryz.prog 120 = some ty120 := by kernel_rfl
noncomputable def ty122 : TI := ⟨Go.TypeDesc.struct #[{ name := "Funs", type := 22, offset := 0, embedded := false, tag := "", pkgPath := "", byteOffset := 0 }, { name := "Now", type := 26, offset := 1, embedded := false, tag := "", pkgPath := "", byteOffset := 24 }, { name := "Steps", type := 3, offset := 5, embedded := false, tag := "", pkgPath := "", byteOffset := 104 }, { name := "deep", type := 3, offset := 6, embedded := false, tag := "", pkgPath := "netwright/eval", byteOffset := 112 }], 7, 120, [.nils, .nils, .nils, .nils, .int Go.IntKind.i64 0, .int Go.IntKind.i64 0, .int Go.IntKind.i64 0]⟩
theorem ty122_ok : tyOf Tryz.prog 122 = some ty122 := by kernel_rfl
noncomputable def ty134 : TI := ⟨Go.TypeDesc.func #[3, 38] #[4] false, 1, 8, [.nilfn]⟩
theorem ty134_ok : tyOf Tryz.prog 134 = some ty134 := by kernel_rfl
noncomputable def ty136 : TI := ⟨Go.TypeDesc.struct #[{ name := "Sig", type := 134, offset := 0, embedded := false, tag := "", pkgPath := "", byteOffset := 0 }, { name := "Edge", type := 134, offset := 1, embedded := false, tag := "", pkgPath := "", byteOffset := 8 }, { name := "Var", type := 134, offset := 2, embedded := false, tag := "", pkgPath := "", byteOffset := 16 }, { name := "Funs", type := 117, offset := 3, embedded := false, tag := "", pkgPath := "", byteOffset := 24 }], 4, 32, [.nilfn, .nilfn, .nilfn, .nilm]⟩
theorem ty136_ok : tyOf Tryz.prog 136 = some ty136 := by kernel_rfl
noncomputable def ty140 : TI := ⟨Go.TypeDesc.func #[94] #[] false, 1, 8, [.nilfn]⟩
theorem ty140_ok : tyOf Tryz.prog 140 = some ty140 := by kernel_rfl
noncomputable def ty141 : TI := ⟨Go.TypeDesc.func #[9] #[] false, 1, 8, [.nilfn]⟩
theorem ty141_ok : tyOf Tryz.prog 141 = some ty141 := by kernel_rfl
noncomputable def ty143 : TI := ⟨Go.TypeDesc.struct #[{ name := "Machine", type := 120, offset := 0, embedded := true, tag := "", pkgPath := "", byteOffset := 0 }, { name := "Vars", type := 23, offset := 1, embedded := false, tag := "", pkgPath := "", byteOffset := 8 }, { name := "Signal", type := 140, offset := 2, embedded := false, tag := "", pkgPath := "", byteOffset := 32 }, { name := "Note", type := 141, offset := 3, embedded := false, tag := "", pkgPath := "", byteOffset := 40 }], 4, 48, [.nilp, .nils, .nilfn, .nilfn]⟩
theorem ty143_ok : tyOf Tryz.prog 143 = some ty143 := by kernel_rfl
noncomputable def ty144 : TI := ⟨Go.TypeDesc.slice 217, 1, 24, [.nils]⟩
theorem ty144_ok : tyOf Tryz.prog 144 = some ty144 := by kernel_rfl
noncomputable def ty151 : TI := ⟨Go.TypeDesc.slice 162, 1, 24, [.nils]⟩
theorem ty151_ok : tyOf Tryz.prog 151 = some ty151 := by kernel_rfl
noncomputable def ty153 : TI := ⟨Go.TypeDesc.struct #[{ name := "a", type := 151, offset := 0, embedded := false, tag := "", pkgPath := "netwright/vec", byteOffset := 0 }, { name := "b", type := 151, offset := 1, embedded := false, tag := "", pkgPath := "netwright/vec", byteOffset := 24 }], 2, 48, [.nils, .nils]⟩
theorem ty153_ok : tyOf Tryz.prog 153 = some ty153 := by kernel_rfl
noncomputable def ty155 : TI := ⟨Go.TypeDesc.int (Go.IntKind.u64), 1, 8, [.int Go.IntKind.u64 0]⟩
theorem ty155_ok : tyOf Tryz.prog 155 = some ty155 := by kernel_rfl
noncomputable def ty162 : TI := ⟨Go.TypeDesc.int (Go.IntKind.u8), 1, 1, [.int Go.IntKind.u8 0]⟩
theorem ty162_ok : tyOf Tryz.prog 162 = some ty162 := by kernel_rfl
noncomputable def ty168 : TI := ⟨Go.TypeDesc.slice 23, 1, 24, [.nils]⟩
theorem ty168_ok : tyOf Tryz.prog 168 = some ty168 := by kernel_rfl
noncomputable def ty169 : TI := ⟨Go.TypeDesc.func #[33] #[4] false, 1, 8, [.nilfn]⟩
theorem ty169_ok : tyOf Tryz.prog 169 = some ty169 := by kernel_rfl
noncomputable def ty170 : TI := ⟨Go.TypeDesc.slice 303, 1, 24, [.nils]⟩
theorem ty170_ok : tyOf Tryz.prog 170 = some ty170 := by kernel_rfl
noncomputable def ty172 : TI := ⟨Go.TypeDesc.struct #[{ name := "Funs", type := 22, offset := 0, embedded := false, tag := "", pkgPath := "", byteOffset := 0 }, { name := "By", type := 3, offset := 1, embedded := false, tag := "", pkgPath := "", byteOffset := 24 }, { name := "Vars", type := 36, offset := 2, embedded := false, tag := "", pkgPath := "", byteOffset := 32 }, { name := "Sigs", type := 36, offset := 3, embedded := false, tag := "", pkgPath := "", byteOffset := 56 }, { name := "Holds", type := 23, offset := 4, embedded := false, tag := "", pkgPath := "", byteOffset := 80 }, { name := "Now", type := 26, offset := 5, embedded := false, tag := "", pkgPath := "", byteOffset := 104 }, { name := "Scope", type := 170, offset := 9, embedded := false, tag := "", pkgPath := "", byteOffset := 184 }, { name := "First", type := 3, offset := 10, embedded := false, tag := "", pkgPath := "", byteOffset := 208 }, { name := "Fun", type := 4, offset := 11, embedded := false, tag := "", pkgPath := "", byteOffset := 216 }, { name := "Out", type := 4, offset := 12, embedded := false, tag := "", pkgPath := "", byteOffset := 217 }], 13, 224, [.nils, .int Go.IntKind.i64 0, .nils, .nils, .nils, .nils, .nils, .nils, .int Go.IntKind.i64 0, .nils, .int Go.IntKind.i64 0, .bool false, .bool false]⟩
theorem ty172_ok : tyOf Tryz.prog 172 = some ty172 := by kernel_rfl
noncomputable def ty178 : TI := ⟨Go.TypeDesc.struct #[{ name := "left", type := 3, offset := 0, embedded := false, tag := "", pkgPath := "netwright/netwrightref06", byteOffset := 0 }, { name := "deep", type := 3, offset := 1, embedded := false, tag := "", pkgPath := "netwright/netwrightref06", byteOffset := 8 }], 2, 16, [.int Go.IntKind.i64 0, .int Go.IntKind.i64 0]⟩
theorem ty178_ok : tyOf Tryz.prog 178 = some ty178 := by kernel_rfl
noncomputable def ty212 : TI := ⟨Go.TypeDesc.slice 265, 1, 24, [.nils]⟩
theorem ty212_ok : tyOf Tryz.prog 212 = some ty212 := by kernel_rfl
noncomputable def ty217 : TI := ⟨Go.TypeDesc.struct #[{ name := "High", type := 3, offset := 0, embedded := false, tag := "", pkgPath := "", byteOffset := 0 }, { name := "Low", type := 3, offset := 1, embedded := false, tag := "", pkgPath := "", byteOffset := 8 }, { name := "One", type := 4, offset := 2, embedded := false, tag := "", pkgPath := "", byteOffset := 16 }], 3, 24, [.int Go.IntKind.i64 0, .int Go.IntKind.i64 0, .bool false]⟩
theorem ty217_ok : tyOf Tryz.prog 217 = some ty217 := by kernel_rfl
noncomputable def ty230 : TI := ⟨Go.TypeDesc.array 2 162, 2, 2, [.int Go.IntKind.u8 0, .int Go.IntKind.u8 0]⟩
theorem ty230_ok : tyOf Tryz.prog 230 = some ty230 := by kernel_rfl
noncomputable def ty237 : TI := ⟨Go.TypeDesc.struct #[{ name := "Expr", type := 40, offset := 0, embedded := false, tag := "", pkgPath := "", byteOffset := 0 }, { name := "After", type := 34, offset := 16, embedded := false, tag := "", pkgPath := "", byteOffset := 240 }], 17, 264, [.int Go.IntKind.i64 0, .str [], .int Go.IntKind.i64 0, .nils, .int Go.IntKind.i64 0, .int Go.IntKind.i64 0, .nils, .nils, .nils, .int Go.IntKind.i64 0, .int Go.IntKind.i64 0, .str [], .nils, .nils, .int Go.IntKind.i64 0, .int Go.IntKind.i64 0, .nils]⟩
theorem ty237_ok : tyOf Tryz.prog 237 = some ty237 := by kernel_rfl
noncomputable def ty241 : TI := ⟨Go.TypeDesc.pointer 243, 1, 8, [.nilp]⟩
theorem ty241_ok : tyOf Tryz.prog 241 = some ty241 := by kernel_rfl
noncomputable def ty243 : TI := ⟨Go.TypeDesc.struct #[{ name := "Env", type := 95, offset := 0, embedded := true, tag := "", pkgPath := "", byteOffset := 0 }, { name := "fun", type := 4, offset := 1, embedded := false, tag := "", pkgPath := "netwright/typed", byteOffset := 8 }, { name := "list", type := 4, offset := 2, embedded := false, tag := "", pkgPath := "netwright/typed", byteOffset := 9 }, { name := "result", type := 36, offset := 3, embedded := false, tag := "", pkgPath := "netwright/typed", byteOffset := 16 }], 4, 40, [.nilp, .bool false, .bool false, .nils]⟩
theorem ty243_ok : tyOf Tryz.prog 243 = some ty243 := by kernel_rfl
noncomputable def ty251 : TI := ⟨Go.TypeDesc.array 3 162, 3, 3, [.int Go.IntKind.u8 0, .int Go.IntKind.u8 0, .int Go.IntKind.u8 0]⟩
theorem ty251_ok : tyOf Tryz.prog 251 = some ty251 := by kernel_rfl
noncomputable def ty253 : TI := ⟨Go.TypeDesc.array 3 251, 9, 9, [.int Go.IntKind.u8 0, .int Go.IntKind.u8 0, .int Go.IntKind.u8 0, .int Go.IntKind.u8 0, .int Go.IntKind.u8 0, .int Go.IntKind.u8 0, .int Go.IntKind.u8 0, .int Go.IntKind.u8 0, .int Go.IntKind.u8 0]⟩
theorem ty253_ok : tyOf Tryz.prog 253 = some ty253 := by kernel_rfl
noncomputable def ty265 : TI := ⟨Go.TypeDesc.struct #[{ name := "Type", type := 38, offset := 0, embedded := false, tag := "", pkgPath := "", byteOffset := 0 }, { name := "High", type := 3, offset := 5, embedded := false, tag := "", pkgPath := "", byteOffset := 80 }, { name := "Low", type := 3, offset := 6, embedded := false, tag := "", pkgPath := "", byteOffset := 88 }, { name := "Slice", type := 4, offset := 7, embedded := false, tag := "", pkgPath := "", byteOffset := 96 }], 8, 104, [.int Go.IntKind.i64 0, .int Go.IntKind.i64 0, .str [], .nils, .nils, .int Go.IntKind.i64 0, .int Go.IntKind.i64 0, .bool false]⟩
theorem ty265_ok : tyOf Tryz.prog 265 = some ty265 := by kernel_rfl
noncomputable def ty299 : TI := ⟨Go.TypeDesc.int (Go.IntKind.u64), 1, 8, [.int Go.IntKind.u64 0]⟩
theorem ty299_ok : tyOf Tryz.prog 299 = some ty299 := by kernel_rfl
noncomputable def ty303 : TI := ⟨Go.TypeDesc.slice 307, 1, 24, [.nils]⟩
theorem ty303_ok : tyOf Tryz.prog 303 = some ty303 := by kernel_rfl
noncomputable def ty304 : TI := ⟨Go.TypeDesc.int (Go.IntKind.i64), 1, 8, [.int Go.IntKind.i64 0]⟩
theorem ty304_ok : tyOf Tryz.prog 304 = some ty304 := by kernel_rfl
noncomputable def ty305 : TI := ⟨Go.TypeDesc.int (Go.IntKind.i64), 1, 8, [.int Go.IntKind.i64 0]⟩
theorem ty305_ok : tyOf Tryz.prog 305 = some ty305 := by kernel_rfl
noncomputable def ty307 : TI := ⟨Go.TypeDesc.struct #[{ name := "Kind", type := 304, offset := 0, embedded := false, tag := "", pkgPath := "", byteOffset := 0 }, { name := "Name", type := 9, offset := 1, embedded := false, tag := "", pkgPath := "", byteOffset := 8 }, { name := "Type", type := 38, offset := 2, embedded := false, tag := "", pkgPath := "", byteOffset := 24 }, { name := "Val", type := 33, offset := 7, embedded := false, tag := "", pkgPath := "", byteOffset := 104 }, { name := "N", type := 3, offset := 11, embedded := false, tag := "", pkgPath := "", byteOffset := 168 }, { name := "Mode", type := 305, offset := 12, embedded := false, tag := "", pkgPath := "", byteOffset := 176 }, { name := "Params", type := 36, offset := 13, embedded := false, tag := "", pkgPath := "", byteOffset := 184 }, { name := "Result", type := 36, offset := 14, embedded := false, tag := "", pkgPath := "", byteOffset := 208 }, { name := "Full", type := 9, offset := 15, embedded := false, tag := "", pkgPath := "", byteOffset := 232 }], 16, 248, [.int Go.IntKind.i64 0, .str [], .int Go.IntKind.i64 0, .int Go.IntKind.i64 0, .str [], .nils, .nils, .int Go.IntKind.i64 0, .int Go.IntKind.i64 0, .nils, .nils, .int Go.IntKind.i64 0, .int Go.IntKind.i64 0, .nils, .nils, .str []]⟩
theorem ty307_ok : tyOf Tryz.prog 307 = some ty307 := by kernel_rfl
noncomputable def ty311 : TI := ⟨Go.TypeDesc.func #[237] #[4] false, 1, 8, [.nilfn]⟩
theorem ty311_ok : tyOf Tryz.prog 311 = some ty311 := by kernel_rfl
noncomputable def ty318 : TI := ⟨Go.TypeDesc.struct #[{ name := "Sig", type := 3, offset := 0, embedded := false, tag := "", pkgPath := "", byteOffset := 0 }, { name := "Place", type := 3, offset := 1, embedded := false, tag := "", pkgPath := "", byteOffset := 8 }, { name := "Vals", type := 168, offset := 2, embedded := false, tag := "", pkgPath := "", byteOffset := 16 }, { name := "After", type := 78, offset := 3, embedded := false, tag := "", pkgPath := "", byteOffset := 40 }, { name := "Transport", type := 4, offset := 4, embedded := false, tag := "", pkgPath := "", byteOffset := 64 }], 5, 72, [.int Go.IntKind.i64 0, .int Go.IntKind.i64 0, .nils, .nils, .bool false]⟩
theorem ty318_ok : tyOf Tryz.prog 318 = some ty318 := by kernel_rfl
noncomputable def ty322 : TI := ⟨Go.TypeDesc.struct #[{ name := "Name", type := 9, offset := 0, embedded := false, tag := "", pkgPath := "", byteOffset := 0 }, { name := "Type", type := 38, offset := 1, embedded := false, tag := "", pkgPath := "", byteOffset := 16 }, { name := "Init", type := 33, offset := 6, embedded := false, tag := "", pkgPath := "", byteOffset := 96 }, { name := "Mode", type := 305, offset := 10, embedded := false, tag := "", pkgPath := "", byteOffset := 160 }], 11, 168, [.str [], .int Go.IntKind.i64 0, .int Go.IntKind.i64 0, .str [], .nils, .nils, .int Go.IntKind.i64 0, .int Go.IntKind.i64 0, .nils, .nils, .int Go.IntKind.i64 0]⟩
theorem ty322_ok : tyOf Tryz.prog 322 = some ty322 := by kernel_rfl
noncomputable def ty323 : TI := ⟨Go.TypeDesc.slice 30, 1, 24, [.nils]⟩
theorem ty323_ok : tyOf Tryz.prog 323 = some ty323 := by kernel_rfl
noncomputable def ty326 : TI := ⟨Go.TypeDesc.int (Go.IntKind.u32), 1, 4, [.int Go.IntKind.u32 0]⟩
theorem ty326_ok : tyOf Tryz.prog 326 = some ty326 := by kernel_rfl
noncomputable def ty366 : TI := ⟨Go.TypeDesc.struct #[{ name := "Op", type := 3, offset := 0, embedded := false, tag := "", pkgPath := "", byteOffset := 0 }, { name := "A", type := 3, offset := 1, embedded := false, tag := "", pkgPath := "", byteOffset := 8 }, { name := "B", type := 3, offset := 2, embedded := false, tag := "", pkgPath := "", byteOffset := 16 }, { name := "Val", type := 33, offset := 3, embedded := false, tag := "", pkgPath := "", byteOffset := 24 }, { name := "Type", type := 38, offset := 7, embedded := false, tag := "", pkgPath := "", byteOffset := 88 }, { name := "Text", type := 9, offset := 12, embedded := false, tag := "", pkgPath := "", byteOffset := 168 }], 13, 184, [.int Go.IntKind.i64 0, .int Go.IntKind.i64 0, .int Go.IntKind.i64 0, .int Go.IntKind.i64 0, .int Go.IntKind.i64 0, .nils, .nils, .int Go.IntKind.i64 0, .int Go.IntKind.i64 0, .str [], .nils, .nils, .str []]⟩
theorem ty366_ok : tyOf Tryz.prog 366 = some ty366 := by kernel_rfl
noncomputable def tt2 : Tr TI := .node 2 ty2 .leaf .leaf
theorem tt2_all : tt2.All (fun t i => tyOf Tryz.prog t = some i) := ⟨ty2_ok, True.intro, True.intro⟩
noncomputable def tt3 : Tr TI := .node 3 ty3 tt2 .leaf
theorem tt3_all : tt3.All (fun t i => tyOf Tryz.prog t = some i) := ⟨ty3_ok, tt2_all, True.intro⟩
noncomputable def tt5 : Tr TI := .node 5 ty5 .leaf .leaf
theorem tt5_all : tt5.All (fun t i => tyOf Tryz.prog t = some i) := ⟨ty5_ok, True.intro, True.intro⟩
noncomputable def tt4 : Tr TI := .node 4 ty4 tt3 tt5
theorem tt4_all : tt4.All (fun t i => tyOf Tryz.prog t = some i) := ⟨ty4_ok, tt3_all, tt5_all⟩
noncomputable def tt20 : Tr TI := .node 20 ty20 .leaf .leaf
theorem tt20_all : tt20.All (fun t i => tyOf Tryz.prog t = some i) := ⟨ty20_ok, True.intro, True.intro⟩
noncomputable def tt21 : Tr TI := .node 21 ty21 tt20 .leaf
theorem tt21_all : tt21.All (fun t i => tyOf Tryz.prog t = some i) := ⟨ty21_ok, tt20_all, True.intro⟩
noncomputable def tt23 : Tr TI := .node 23 ty23 .leaf .leaf
theorem tt23_all : tt23.All (fun t i => tyOf Tryz.prog t = some i) := ⟨ty23_ok, True.intro, True.intro⟩
noncomputable def tt22 : Tr TI := .node 22 ty22 tt21 tt23
theorem tt22_all : tt22.All (fun t i => tyOf Tryz.prog t = some i) := ⟨ty22_ok, tt21_all, tt23_all⟩
noncomputable def tt9 : Tr TI := .node 9 ty9 tt4 tt22
theorem tt9_all : tt9.All (fun t i => tyOf Tryz.prog t = some i) := ⟨ty9_ok, tt4_all, tt22_all⟩
noncomputable def tt26 : Tr TI := .node 26 ty26 .leaf .leaf
theorem tt26_all : tt26.All (fun t i => tyOf Tryz.prog t = some i) := ⟨ty26_ok, True.intro, True.intro⟩
noncomputable def tt28 : Tr TI := .node 28 ty28 tt26 .leaf
theorem tt28_all : tt28.All (fun t i => tyOf Tryz.prog t = some i) := ⟨ty28_ok, tt26_all, True.intro⟩
noncomputable def tt30 : Tr TI := .node 30 ty30 .leaf .leaf
theorem tt30_all : tt30.All (fun t i => tyOf Tryz.prog t = some i) := ⟨ty30_ok, True.intro, True.intro⟩
noncomputable def tt29 : Tr TI := .node 29 ty29 tt28 tt30
theorem tt29_all : tt29.All (fun t i => tyOf Tryz.prog t = some i) := ⟨ty29_ok, tt28_all, tt30_all⟩
noncomputable def tt33 : Tr TI := .node 33 ty33 .leaf .leaf
theorem tt33_all : tt33.All (fun t i => tyOf Tryz.prog t = some i) := ⟨ty33_ok, True.intro, True.intro⟩
noncomputable def tt34 : Tr TI := .node 34 ty34 tt33 .leaf
theorem tt34_all : tt34.All (fun t i => tyOf Tryz.prog t = some i) := ⟨ty34_ok, tt33_all, True.intro⟩
noncomputable def tt36 : Tr TI := .node 36 ty36 .leaf .leaf
theorem tt36_all : tt36.All (fun t i => tyOf Tryz.prog t = some i) := ⟨ty36_ok, True.intro, True.intro⟩
noncomputable def tt35 : Tr TI := .node 35 ty35 tt34 tt36
theorem tt35_all : tt35.All (fun t i => tyOf Tryz.prog t = some i) := ⟨ty35_ok, tt34_all, tt36_all⟩
noncomputable def tt31 : Tr TI := .node 31 ty31 tt29 tt35
theorem tt31_all : tt31.All (fun t i => tyOf Tryz.prog t = some i) := ⟨ty31_ok, tt29_all, tt35_all⟩
noncomputable def tt24 : Tr TI := .node 24 ty24 tt9 tt31
theorem tt24_all : tt24.All (fun t i => tyOf Tryz.prog t = some i) := ⟨ty24_ok, tt9_all, tt31_all⟩
noncomputable def tt40 : Tr TI := .node 40 ty40 .leaf .leaf
theorem tt40_all : tt40.All (fun t i => tyOf Tryz.prog t = some i) := ⟨ty40_ok, True.intro, True.intro⟩
noncomputable def tt43 : Tr TI := .node 43 ty43 tt40 .leaf
theorem tt43_all : tt43.All (fun t i => tyOf Tryz.prog t = some i) := ⟨ty43_ok, tt40_all, True.intro⟩
noncomputable def tt78 : Tr TI := .node 78 ty78 .leaf .leaf
theorem tt78_all : tt78.All (fun t i => tyOf Tryz.prog t = some i) := ⟨ty78_ok, True.intro, True.intro⟩
noncomputable def tt66 : Tr TI := .node 66 ty66 tt43 tt78
theorem tt66_all : tt66.All (fun t i => tyOf Tryz.prog t = some i) := ⟨ty66_ok, tt43_all, tt78_all⟩
noncomputable def tt80 : Tr TI := .node 80 ty80 .leaf .leaf
theorem tt80_all : tt80.All (fun t i => tyOf Tryz.prog t = some i) := ⟨ty80_ok, True.intro, True.intro⟩
noncomputable def tt81 : Tr TI := .node 81 ty81 tt80 .leaf
theorem tt81_all : tt81.All (fun t i => tyOf Tryz.prog t = some i) := ⟨ty81_ok, tt80_all, True.intro⟩
noncomputable def tt85 : Tr TI := .node 85 ty85 .leaf .leaf
theorem tt85_all : tt85.All (fun t i => tyOf Tryz.prog t = some i) := ⟨ty85_ok, True.intro, True.intro⟩
noncomputable def tt83 : Tr TI := .node 83 ty83 tt81 tt85
theorem tt83_all : tt83.All (fun t i => tyOf Tryz.prog t = some i) := ⟨ty83_ok, tt81_all, tt85_all⟩
noncomputable def tt79 : Tr TI := .node 79 ty79 tt66 tt83
theorem tt79_all : tt79.All (fun t i => tyOf Tryz.prog t = some i) := ⟨ty79_ok, tt66_all, tt83_all⟩
noncomputable def tt90 : Tr TI := .node 90 ty90 .leaf .leaf
theorem tt90_all : tt90.All (fun t i => tyOf Tryz.prog t = some i) := ⟨ty90_ok, True.intro, True.intro⟩
noncomputable def tt91 : Tr TI := .node 91 ty91 tt90 .leaf
theorem tt91_all : tt91.All (fun t i => tyOf Tryz.prog t = some i) := ⟨ty91_ok, tt90_all, True.intro⟩
noncomputable def tt94 : Tr TI := .node 94 ty94 .leaf .leaf
theorem tt94_all : tt94.All (fun t i => tyOf Tryz.prog t = some i) := ⟨ty94_ok, True.intro, True.intro⟩
noncomputable def tt92 : Tr TI := .node 92 ty92 tt91 tt94
theorem tt92_all : tt92.All (fun t i => tyOf Tryz.prog t = some i) := ⟨ty92_ok, tt91_all, tt94_all⟩
noncomputable def tt101 : Tr TI := .node 101 ty101 .leaf .leaf
theorem tt101_all : tt101.All (fun t i => tyOf Tryz.prog t = some i) := ⟨ty101_ok, True.intro, True.intro⟩
noncomputable def tt108 : Tr TI := .node 108 ty108 .leaf .leaf
theorem tt108_all : tt108.All (fun t i => tyOf Tryz.prog t = some i) := ⟨ty108_ok, True.intro, True.intro⟩
noncomputable def tt107 : Tr TI := .node 107 ty107 tt101 tt108
theorem tt107_all : tt107.All (fun t i => tyOf Tryz.prog t = some i) := ⟨ty107_ok, tt101_all, tt108_all⟩
noncomputable def tt95 : Tr TI := .node 95 ty95 tt92 tt107
theorem tt95_all : tt95.All (fun t i => tyOf Tryz.prog t = some i) := ⟨ty95_ok, tt92_all, tt107_all⟩
noncomputable def tt89 : Tr TI := .node 89 ty89 tt79 tt95
theorem tt89_all : tt89.All (fun t i => tyOf Tryz.prog t = some i) := ⟨ty89_ok, tt79_all, tt95_all⟩
noncomputable def tt38 : Tr TI := .node 38 ty38 tt24 tt89
theorem tt38_all : tt38.All (fun t i => tyOf Tryz.prog t = some i) := ⟨ty38_ok, tt24_all, tt89_all⟩
noncomputable def tt117 : Tr TI := .node 117 ty117 .leaf .leaf
theorem tt117_all : tt117.All (fun t i => tyOf Tryz.prog t = some i) := ⟨ty117_ok, True.intro, True.intro⟩
noncomputable def tt120 : Tr TI := .node 120 ty120 tt117 .leaf
theorem tt120_all : tt120.All (fun t i => tyOf Tryz.prog t = some i) := ⟨ty120_ok, tt117_all, True.intro⟩
noncomputable def tt134 : Tr TI := .node 134 ty134 .leaf .leaf
theorem tt134_all : tt134.All (fun t i => tyOf Tryz.prog t = some i) := ⟨ty134_ok, True.intro, True.intro⟩
noncomputable def tt122 : Tr TI := .node 122 ty122 tt120 tt134
theorem tt122_all : tt122.All (fun t i => tyOf Tryz.prog t = some i) := ⟨ty122_ok, tt120_all, tt134_all⟩
noncomputable def tt140 : Tr TI := .node 140 ty140 .leaf .leaf
theorem tt140_all : tt140.All (fun t i => tyOf Tryz.prog t = some i) := ⟨ty140_ok, True.intro, True.intro⟩
noncomputable def tt141 : Tr TI := .node 141 ty141 tt140 .leaf
theorem tt141_all : tt141.All (fun t i => tyOf Tryz.prog t = some i) := ⟨ty141_ok, tt140_all, True.intro⟩
noncomputable def tt144 : Tr TI := .node 144 ty144 .leaf .leaf
theorem tt144_all : tt144.All (fun t i => tyOf Tryz.prog t = some i) := ⟨ty144_ok, True.intro, True.intro⟩
noncomputable def tt143 : Tr TI := .node 143 ty143 tt141 tt144
theorem tt143_all : tt143.All (fun t i => tyOf Tryz.prog t = some i) := ⟨ty143_ok, tt141_all, tt144_all⟩
noncomputable def tt136 : Tr TI := .node 136 ty136 tt122 tt143
theorem tt136_all : tt136.All (fun t i => tyOf Tryz.prog t = some i) := ⟨ty136_ok, tt122_all, tt143_all⟩
noncomputable def tt153 : Tr TI := .node 153 ty153 .leaf .leaf
theorem tt153_all : tt153.All (fun t i => tyOf Tryz.prog t = some i) := ⟨ty153_ok, True.intro, True.intro⟩
noncomputable def tt155 : Tr TI := .node 155 ty155 tt153 .leaf
theorem tt155_all : tt155.All (fun t i => tyOf Tryz.prog t = some i) := ⟨ty155_ok, tt153_all, True.intro⟩
noncomputable def tt168 : Tr TI := .node 168 ty168 .leaf .leaf
theorem tt168_all : tt168.All (fun t i => tyOf Tryz.prog t = some i) := ⟨ty168_ok, True.intro, True.intro⟩
noncomputable def tt162 : Tr TI := .node 162 ty162 tt155 tt168
theorem tt162_all : tt162.All (fun t i => tyOf Tryz.prog t = some i) := ⟨ty162_ok, tt155_all, tt168_all⟩
noncomputable def tt170 : Tr TI := .node 170 ty170 .leaf .leaf
theorem tt170_all : tt170.All (fun t i => tyOf Tryz.prog t = some i) := ⟨ty170_ok, True.intro, True.intro⟩
noncomputable def tt172 : Tr TI := .node 172 ty172 tt170 .leaf
theorem tt172_all : tt172.All (fun t i => tyOf Tryz.prog t = some i) := ⟨ty172_ok, tt170_all, True.intro⟩
noncomputable def tt212 : Tr TI := .node 212 ty212 .leaf .leaf
theorem tt212_all : tt212.All (fun t i => tyOf Tryz.prog t = some i) := ⟨ty212_ok, True.intro, True.intro⟩
noncomputable def tt178 : Tr TI := .node 178 ty178 tt172 tt212
theorem tt178_all : tt178.All (fun t i => tyOf Tryz.prog t = some i) := ⟨ty178_ok, tt172_all, tt212_all⟩
noncomputable def tt169 : Tr TI := .node 169 ty169 tt162 tt178
theorem tt169_all : tt169.All (fun t i => tyOf Tryz.prog t = some i) := ⟨ty169_ok, tt162_all, tt178_all⟩
noncomputable def tt151 : Tr TI := .node 151 ty151 tt136 tt169
theorem tt151_all : tt151.All (fun t i => tyOf Tryz.prog t = some i) := ⟨ty151_ok, tt136_all, tt169_all⟩
noncomputable def tt230 : Tr TI := .node 230 ty230 .leaf .leaf
theorem tt230_all : tt230.All (fun t i => tyOf Tryz.prog t = some i) := ⟨ty230_ok, True.intro, True.intro⟩
noncomputable def tt237 : Tr TI := .node 237 ty237 tt230 .leaf
theorem tt237_all : tt237.All (fun t i => tyOf Tryz.prog t = some i) := ⟨ty237_ok, tt230_all, True.intro⟩
noncomputable def tt243 : Tr TI := .node 243 ty243 .leaf .leaf
theorem tt243_all : tt243.All (fun t i => tyOf Tryz.prog t = some i) := ⟨ty243_ok, True.intro, True.intro⟩
noncomputable def tt241 : Tr TI := .node 241 ty241 tt237 tt243
theorem tt241_all : tt241.All (fun t i => tyOf Tryz.prog t = some i) := ⟨ty241_ok, tt237_all, tt243_all⟩
noncomputable def tt253 : Tr TI := .node 253 ty253 .leaf .leaf
theorem tt253_all : tt253.All (fun t i => tyOf Tryz.prog t = some i) := ⟨ty253_ok, True.intro, True.intro⟩
noncomputable def tt265 : Tr TI := .node 265 ty265 tt253 .leaf
theorem tt265_all : tt265.All (fun t i => tyOf Tryz.prog t = some i) := ⟨ty265_ok, tt253_all, True.intro⟩
noncomputable def tt303 : Tr TI := .node 303 ty303 .leaf .leaf
theorem tt303_all : tt303.All (fun t i => tyOf Tryz.prog t = some i) := ⟨ty303_ok, True.intro, True.intro⟩
noncomputable def tt299 : Tr TI := .node 299 ty299 tt265 tt303
theorem tt299_all : tt299.All (fun t i => tyOf Tryz.prog t = some i) := ⟨ty299_ok, tt265_all, tt303_all⟩
noncomputable def tt251 : Tr TI := .node 251 ty251 tt241 tt299
theorem tt251_all : tt251.All (fun t i => tyOf Tryz.prog t = some i) := ⟨ty251_ok, tt241_all, tt299_all⟩
noncomputable def tt305 : Tr TI := .node 305 ty305 .leaf .leaf
theorem tt305_all : tt305.All (fun t i => tyOf Tryz.prog t = some i) := ⟨ty305_ok, True.intro, True.intro⟩
noncomputable def tt307 : Tr TI := .node 307 ty307 tt305 .leaf
theorem tt307_all : tt307.All (fun t i => tyOf Tryz.prog t = some i) := ⟨ty307_ok, tt305_all, True.intro⟩
noncomputable def tt318 : Tr TI := .node 318 ty318 .leaf .leaf
theorem tt318_all : tt318.All (fun t i => tyOf Tryz.prog t = some i) := ⟨ty318_ok, True.intro, True.intro⟩
noncomputable def tt311 : Tr TI := .node 311 ty311 tt307 tt318
theorem tt311_all : tt311.All (fun t i => tyOf Tryz.prog t = some i) := ⟨ty311_ok, tt307_all, tt318_all⟩
noncomputable def tt323 : Tr TI := .node 323 ty323 .leaf .leaf
theorem tt323_all : tt323.All (fun t i => tyOf Tryz.prog t = some i) := ⟨ty323_ok, True.intro, True.intro⟩
noncomputable def tt366 : Tr TI := .node 366 ty366 .leaf .leaf
theorem tt366_all : tt366.All (fun t i => tyOf Tryz.prog t = some i) := ⟨ty366_ok, True.intro, True.intro⟩
noncomputable def tt326 : Tr TI := .node 326 ty326 tt323 tt366
theorem tt326_all : tt326.All (fun t i => tyOf Tryz.prog t = some i) := ⟨ty326_ok, tt323_all, tt366_all⟩
noncomputable def tt322 : Tr TI := .node 322 ty322 tt311 tt326
theorem tt322_all : tt322.All (fun t i => tyOf Tryz.prog t = some i) := ⟨ty322_ok, tt311_all, tt326_all⟩
noncomputable def tt304 : Tr TI := .node 304 ty304 tt251 tt322
theorem tt304_all : tt304.All (fun t i => tyOf Tryz.prog t = some i) := ⟨ty304_ok, tt251_all, tt322_all⟩
noncomputable def tt217 : Tr TI := .node 217 ty217 tt151 tt304
theorem tt217_all : tt217.All (fun t i => tyOf Tryz.prog t = some i) := ⟨ty217_ok, tt151_all, tt304_all⟩
noncomputable def tt110 : Tr TI := .node 110 ty110 tt38 tt217
theorem tt110_all : tt110.All (fun t i => tyOf Tryz.prog t = some i) := ⟨ty110_ok, tt38_all, tt217_all⟩
theorem fn3_ok : Tryz.prog.funcs[3]? = some Tryz.f3 ∧ (Tryz.f3.name == "runtime.NumGoroutine") = false := ⟨Tryz.func3, by kernel_rfl⟩
theorem fn4_ok : Tryz.prog.funcs[4]? = some Tryz.f4 ∧ (Tryz.f4.name == "runtime.NumGoroutine") = false := ⟨Tryz.func4, by kernel_rfl⟩
theorem fn5_ok : Tryz.prog.funcs[5]? = some Tryz.f5 ∧ (Tryz.f5.name == "runtime.NumGoroutine") = false := ⟨Tryz.func5, by kernel_rfl⟩
theorem fn6_ok : Tryz.prog.funcs[6]? = some Tryz.f6 ∧ (Tryz.f6.name == "runtime.NumGoroutine") = false := ⟨Tryz.func6, by kernel_rfl⟩
theorem fn7_ok : Tryz.prog.funcs[7]? = some Tryz.f7 ∧ (Tryz.f7.name == "runtime.NumGoroutine") = false := ⟨Tryz.func7, by kernel_rfl⟩
theorem fn8_ok : Tryz.prog.funcs[8]? = some Tryz.f8 ∧ (Tryz.f8.name == "runtime.NumGoroutine") = false := ⟨Tryz.func8, by kernel_rfl⟩
theorem fn9_ok : Tryz.prog.funcs[9]? = some Tryz.f9 ∧ (Tryz.f9.name == "runtime.NumGoroutine") = false := ⟨Tryz.func9, by kernel_rfl⟩
theorem fn10_ok : Tryz.prog.funcs[10]? = some Tryz.f10 ∧ (Tryz.f10.name == "runtime.NumGoroutine") = false := ⟨Tryz.func10, by kernel_rfl⟩
theorem fn11_ok : Tryz.prog.funcs[11]? = some Tryz.f11 ∧ (Tryz.f11.name == "runtime.NumGoroutine") = false := ⟨Tryz.func11, by kernel_rfl⟩
theorem fn12_ok : Tryz.prog.funcs[12]? = some Tryz.f12 ∧ (Tryz.f12.name == "runtime.NumGoroutine") = false := ⟨Tryz.func12, by kernel_rfl⟩
theorem fn13_ok : Tryz.prog.funcs[13]? = some Tryz.f13 ∧ (Tryz.f13.name == "runtime.NumGoroutine") = false := ⟨Tryz.func13, by kernel_rfl⟩
theorem fn14_ok : Tryz.prog.funcs[14]? = some Tryz.f14 ∧ (Tryz.f14.name == "runtime.NumGoroutine") = false := ⟨Tryz.func14, by kernel_rfl⟩
theorem fn15_ok : Tryz.prog.funcs[15]? = some Tryz.f15 ∧ (Tryz.f15.name == "runtime.NumGoroutine") = false := ⟨Tryz.func15, by kernel_rfl⟩
theorem fn16_ok : Tryz.prog.funcs[16]? = some Tryz.f16 ∧ (Tryz.f16.name == "runtime.NumGoroutine") = false := ⟨Tryz.func16, by kernel_rfl⟩
theorem fn17_ok : Tryz.prog.funcs[17]? = some Tryz.f17 ∧ (Tryz.f17.name == "runtime.NumGoroutine") = false := ⟨Tryz.func17, by kernel_rfl⟩
theorem fn18_ok : Tryz.prog.funcs[18]? = some Tryz.f18 ∧ (Tryz.f18.name == "runtime.NumGoroutine") = false := ⟨Tryz.func18, by kernel_rfl⟩
theorem fn19_ok : Tryz.prog.funcs[19]? = some Tryz.f19 ∧ (Tryz.f19.name == "runtime.NumGoroutine") = false := ⟨Tryz.func19, by kernel_rfl⟩
theorem fn20_ok : Tryz.prog.funcs[20]? = some Tryz.f20 ∧ (Tryz.f20.name == "runtime.NumGoroutine") = false := ⟨Tryz.func20, by kernel_rfl⟩
theorem fn21_ok : Tryz.prog.funcs[21]? = some Tryz.f21 ∧ (Tryz.f21.name == "runtime.NumGoroutine") = false := ⟨Tryz.func21, by kernel_rfl⟩
theorem fn22_ok : Tryz.prog.funcs[22]? = some Tryz.f22 ∧ (Tryz.f22.name == "runtime.NumGoroutine") = false := ⟨Tryz.func22, by kernel_rfl⟩
theorem fn23_ok : Tryz.prog.funcs[23]? = some Tryz.f23 ∧ (Tryz.f23.name == "runtime.NumGoroutine") = false := ⟨Tryz.func23, by kernel_rfl⟩
theorem fn24_ok : Tryz.prog.funcs[24]? = some Tryz.f24 ∧ (Tryz.f24.name == "runtime.NumGoroutine") = false := ⟨Tryz.func24, by kernel_rfl⟩
theorem fn25_ok : Tryz.prog.funcs[25]? = some Tryz.f25 ∧ (Tryz.f25.name == "runtime.NumGoroutine") = false := ⟨Tryz.func25, by kernel_rfl⟩
theorem fn26_ok : Tryz.prog.funcs[26]? = some Tryz.f26 ∧ (Tryz.f26.name == "runtime.NumGoroutine") = false := ⟨Tryz.func26, by kernel_rfl⟩
theorem fn27_ok : Tryz.prog.funcs[27]? = some Tryz.f27 ∧ (Tryz.f27.name == "runtime.NumGoroutine") = false := ⟨Tryz.func27, by kernel_rfl⟩
theorem fn28_ok : Tryz.prog.funcs[28]? = some Tryz.f28 ∧ (Tryz.f28.name == "runtime.NumGoroutine") = false := ⟨Tryz.func28, by kernel_rfl⟩
theorem fn29_ok : Tryz.prog.funcs[29]? = some Tryz.f29 ∧ (Tryz.f29.name == "runtime.NumGoroutine") = false := ⟨Tryz.func29, by kernel_rfl⟩
theorem fn30_ok : Tryz.prog.funcs[30]? = some Tryz.f30 ∧ (Tryz.f30.name == "runtime.NumGoroutine") = false := ⟨Tryz.func30, by kernel_rfl⟩
theorem fn31_ok : Tryz.prog.funcs[31]? = some Tryz.f31 ∧ (Tryz.f31.name == "runtime.NumGoroutine") = false := ⟨Tryz.func31, by kernel_rfl⟩
theorem fn32_ok : Tryz.prog.funcs[32]? = some Tryz.f32 ∧ (Tryz.f32.name == "runtime.NumGoroutine") = false := ⟨Tryz.func32, by kernel_rfl⟩
theorem fn33_ok : Tryz.prog.funcs[33]? = some Tryz.f33 ∧ (Tryz.f33.name == "runtime.NumGoroutine") = false := ⟨Tryz.func33, by kernel_rfl⟩
theorem fn34_ok : Tryz.prog.funcs[34]? = some Tryz.f34 ∧ (Tryz.f34.name == "runtime.NumGoroutine") = false := ⟨Tryz.func34, by kernel_rfl⟩
theorem fn35_ok : Tryz.prog.funcs[35]? = some Tryz.f35 ∧ (Tryz.f35.name == "runtime.NumGoroutine") = false := ⟨Tryz.func35, by kernel_rfl⟩
theorem fn36_ok : Tryz.prog.funcs[36]? = some Tryz.f36 ∧ (Tryz.f36.name == "runtime.NumGoroutine") = false := ⟨Tryz.func36, by kernel_rfl⟩
theorem fn37_ok : Tryz.prog.funcs[37]? = some Tryz.f37 ∧ (Tryz.f37.name == "runtime.NumGoroutine") = false := ⟨Tryz.func37, by kernel_rfl⟩
theorem fn38_ok : Tryz.prog.funcs[38]? = some Tryz.f38 ∧ (Tryz.f38.name == "runtime.NumGoroutine") = false := ⟨Tryz.func38, by kernel_rfl⟩
theorem fn39_ok : Tryz.prog.funcs[39]? = some Tryz.f39 ∧ (Tryz.f39.name == "runtime.NumGoroutine") = false := ⟨Tryz.func39, by kernel_rfl⟩
theorem fn40_ok : Tryz.prog.funcs[40]? = some Tryz.f40 ∧ (Tryz.f40.name == "runtime.NumGoroutine") = false := ⟨Tryz.func40, by kernel_rfl⟩
theorem fn41_ok : Tryz.prog.funcs[41]? = some Tryz.f41 ∧ (Tryz.f41.name == "runtime.NumGoroutine") = false := ⟨Tryz.func41, by kernel_rfl⟩
theorem fn42_ok : Tryz.prog.funcs[42]? = some Tryz.f42 ∧ (Tryz.f42.name == "runtime.NumGoroutine") = false := ⟨Tryz.func42, by kernel_rfl⟩
theorem fn43_ok : Tryz.prog.funcs[43]? = some Tryz.f43 ∧ (Tryz.f43.name == "runtime.NumGoroutine") = false := ⟨Tryz.func43, by kernel_rfl⟩
theorem fn44_ok : Tryz.prog.funcs[44]? = some Tryz.f44 ∧ (Tryz.f44.name == "runtime.NumGoroutine") = false := ⟨Tryz.func44, by kernel_rfl⟩
theorem fn45_ok : Tryz.prog.funcs[45]? = some Tryz.f45 ∧ (Tryz.f45.name == "runtime.NumGoroutine") = false := ⟨Tryz.func45, by kernel_rfl⟩
theorem fn46_ok : Tryz.prog.funcs[46]? = some Tryz.f46 ∧ (Tryz.f46.name == "runtime.NumGoroutine") = false := ⟨Tryz.func46, by kernel_rfl⟩
theorem fn47_ok : Tryz.prog.funcs[47]? = some Tryz.f47 ∧ (Tryz.f47.name == "runtime.NumGoroutine") = false := ⟨Tryz.func47, by kernel_rfl⟩
theorem fn48_ok : Tryz.prog.funcs[48]? = some Tryz.f48 ∧ (Tryz.f48.name == "runtime.NumGoroutine") = false := ⟨Tryz.func48, by kernel_rfl⟩
theorem fn49_ok : Tryz.prog.funcs[49]? = some Tryz.f49 ∧ (Tryz.f49.name == "runtime.NumGoroutine") = false := ⟨Tryz.func49, by kernel_rfl⟩
theorem fn50_ok : Tryz.prog.funcs[50]? = some Tryz.f50 ∧ (Tryz.f50.name == "runtime.NumGoroutine") = false := ⟨Tryz.func50, by kernel_rfl⟩
theorem fn51_ok : Tryz.prog.funcs[51]? = some Tryz.f51 ∧ (Tryz.f51.name == "runtime.NumGoroutine") = false := ⟨Tryz.func51, by kernel_rfl⟩
theorem fn52_ok : Tryz.prog.funcs[52]? = some Tryz.f52 ∧ (Tryz.f52.name == "runtime.NumGoroutine") = false := ⟨Tryz.func52, by kernel_rfl⟩
theorem fn53_ok : Tryz.prog.funcs[53]? = some Tryz.f53 ∧ (Tryz.f53.name == "runtime.NumGoroutine") = false := ⟨Tryz.func53, by kernel_rfl⟩
theorem fn54_ok : Tryz.prog.funcs[54]? = some Tryz.f54 ∧ (Tryz.f54.name == "runtime.NumGoroutine") = false := ⟨Tryz.func54, by kernel_rfl⟩
theorem fn55_ok : Tryz.prog.funcs[55]? = some Tryz.f55 ∧ (Tryz.f55.name == "runtime.NumGoroutine") = false := ⟨Tryz.func55, by kernel_rfl⟩
theorem fn56_ok : Tryz.prog.funcs[56]? = some Tryz.f56 ∧ (Tryz.f56.name == "runtime.NumGoroutine") = false := ⟨Tryz.func56, by kernel_rfl⟩
theorem fn57_ok : Tryz.prog.funcs[57]? = some Tryz.f57 ∧ (Tryz.f57.name == "runtime.NumGoroutine") = false := ⟨Tryz.func57, by kernel_rfl⟩
theorem fn58_ok : Tryz.prog.funcs[58]? = some Tryz.f58 ∧ (Tryz.f58.name == "runtime.NumGoroutine") = false := ⟨Tryz.func58, by kernel_rfl⟩
theorem fn59_ok : Tryz.prog.funcs[59]? = some Tryz.f59 ∧ (Tryz.f59.name == "runtime.NumGoroutine") = false := ⟨Tryz.func59, by kernel_rfl⟩
theorem fn60_ok : Tryz.prog.funcs[60]? = some Tryz.f60 ∧ (Tryz.f60.name == "runtime.NumGoroutine") = false := ⟨Tryz.func60, by kernel_rfl⟩
theorem fn61_ok : Tryz.prog.funcs[61]? = some Tryz.f61 ∧ (Tryz.f61.name == "runtime.NumGoroutine") = false := ⟨Tryz.func61, by kernel_rfl⟩
theorem fn62_ok : Tryz.prog.funcs[62]? = some Tryz.f62 ∧ (Tryz.f62.name == "runtime.NumGoroutine") = false := ⟨Tryz.func62, by kernel_rfl⟩
theorem fn63_ok : Tryz.prog.funcs[63]? = some Tryz.f63 ∧ (Tryz.f63.name == "runtime.NumGoroutine") = false := ⟨Tryz.func63, by kernel_rfl⟩
theorem fn64_ok : Tryz.prog.funcs[64]? = some Tryz.f64 ∧ (Tryz.f64.name == "runtime.NumGoroutine") = false := ⟨Tryz.func64, by kernel_rfl⟩
theorem fn65_ok : Tryz.prog.funcs[65]? = some Tryz.f65 ∧ (Tryz.f65.name == "runtime.NumGoroutine") = false := ⟨Tryz.func65, by kernel_rfl⟩
theorem fn66_ok : Tryz.prog.funcs[66]? = some Tryz.f66 ∧ (Tryz.f66.name == "runtime.NumGoroutine") = false := ⟨Tryz.func66, by kernel_rfl⟩
theorem fn67_ok : Tryz.prog.funcs[67]? = some Tryz.f67 ∧ (Tryz.f67.name == "runtime.NumGoroutine") = false := ⟨Tryz.func67, by kernel_rfl⟩
theorem fn68_ok : Tryz.prog.funcs[68]? = some Tryz.f68 ∧ (Tryz.f68.name == "runtime.NumGoroutine") = false := ⟨Tryz.func68, by kernel_rfl⟩
theorem fn69_ok : Tryz.prog.funcs[69]? = some Tryz.f69 ∧ (Tryz.f69.name == "runtime.NumGoroutine") = false := ⟨Tryz.func69, by kernel_rfl⟩
theorem fn70_ok : Tryz.prog.funcs[70]? = some Tryz.f70 ∧ (Tryz.f70.name == "runtime.NumGoroutine") = false := ⟨Tryz.func70, by kernel_rfl⟩
theorem fn71_ok : Tryz.prog.funcs[71]? = some Tryz.f71 ∧ (Tryz.f71.name == "runtime.NumGoroutine") = false := ⟨Tryz.func71, by kernel_rfl⟩
theorem fn72_ok : Tryz.prog.funcs[72]? = some Tryz.f72 ∧ (Tryz.f72.name == "runtime.NumGoroutine") = false := ⟨Tryz.func72, by kernel_rfl⟩
theorem fn73_ok : Tryz.prog.funcs[73]? = some Tryz.f73 ∧ (Tryz.f73.name == "runtime.NumGoroutine") = false := ⟨Tryz.func73, by kernel_rfl⟩
theorem fn74_ok : Tryz.prog.funcs[74]? = some Tryz.f74 ∧ (Tryz.f74.name == "runtime.NumGoroutine") = false := ⟨Tryz.func74, by kernel_rfl⟩
theorem fn75_ok : Tryz.prog.funcs[75]? = some Tryz.f75 ∧ (Tryz.f75.name == "runtime.NumGoroutine") = false := ⟨Tryz.func75, by kernel_rfl⟩
theorem fn76_ok : Tryz.prog.funcs[76]? = some Tryz.f76 ∧ (Tryz.f76.name == "runtime.NumGoroutine") = false := ⟨Tryz.func76, by kernel_rfl⟩
theorem fn77_ok : Tryz.prog.funcs[77]? = some Tryz.f77 ∧ (Tryz.f77.name == "runtime.NumGoroutine") = false := ⟨Tryz.func77, by kernel_rfl⟩
theorem fn78_ok : Tryz.prog.funcs[78]? = some Tryz.f78 ∧ (Tryz.f78.name == "runtime.NumGoroutine") = false := ⟨Tryz.func78, by kernel_rfl⟩
theorem fn79_ok : Tryz.prog.funcs[79]? = some Tryz.f79 ∧ (Tryz.f79.name == "runtime.NumGoroutine") = false := ⟨Tryz.func79, by kernel_rfl⟩
theorem fn80_ok : Tryz.prog.funcs[80]? = some Tryz.f80 ∧ (Tryz.f80.name == "runtime.NumGoroutine") = false := ⟨Tryz.func80, by kernel_rfl⟩
theorem fn81_ok : Tryz.prog.funcs[81]? = some Tryz.f81 ∧ (Tryz.f81.name == "runtime.NumGoroutine") = false := ⟨Tryz.func81, by kernel_rfl⟩
theorem fn82_ok : Tryz.prog.funcs[82]? = some Tryz.f82 ∧ (Tryz.f82.name == "runtime.NumGoroutine") = false := ⟨Tryz.func82, by kernel_rfl⟩
theorem fn83_ok : Tryz.prog.funcs[83]? = some Tryz.f83 ∧ (Tryz.f83.name == "runtime.NumGoroutine") = false := ⟨Tryz.func83, by kernel_rfl⟩
theorem fn84_ok : Tryz.prog.funcs[84]? = some Tryz.f84 ∧ (Tryz.f84.name == "runtime.NumGoroutine") = false := ⟨Tryz.func84, by kernel_rfl⟩
theorem fn85_ok : Tryz.prog.funcs[85]? = some Tryz.f85 ∧ (Tryz.f85.name == "runtime.NumGoroutine") = false := ⟨Tryz.func85, by kernel_rfl⟩
theorem fn86_ok : Tryz.prog.funcs[86]? = some Tryz.f86 ∧ (Tryz.f86.name == "runtime.NumGoroutine") = false := ⟨Tryz.func86, by kernel_rfl⟩
theorem fn87_ok : Tryz.prog.funcs[87]? = some Tryz.f87 ∧ (Tryz.f87.name == "runtime.NumGoroutine") = false := ⟨Tryz.func87, by kernel_rfl⟩
theorem fn88_ok : Tryz.prog.funcs[88]? = some Tryz.f88 ∧ (Tryz.f88.name == "runtime.NumGoroutine") = false := ⟨Tryz.func88, by kernel_rfl⟩
theorem fn89_ok : Tryz.prog.funcs[89]? = some Tryz.f89 ∧ (Tryz.f89.name == "runtime.NumGoroutine") = false := ⟨Tryz.func89, by kernel_rfl⟩
theorem fn90_ok : Tryz.prog.funcs[90]? = some Tryz.f90 ∧ (Tryz.f90.name == "runtime.NumGoroutine") = false := ⟨Tryz.func90, by kernel_rfl⟩
theorem fn91_ok : Tryz.prog.funcs[91]? = some Tryz.f91 ∧ (Tryz.f91.name == "runtime.NumGoroutine") = false := ⟨Tryz.func91, by kernel_rfl⟩
theorem fn92_ok : Tryz.prog.funcs[92]? = some Tryz.f92 ∧ (Tryz.f92.name == "runtime.NumGoroutine") = false := ⟨Tryz.func92, by kernel_rfl⟩
theorem fn93_ok : Tryz.prog.funcs[93]? = some Tryz.f93 ∧ (Tryz.f93.name == "runtime.NumGoroutine") = false := ⟨Tryz.func93, by kernel_rfl⟩
theorem fn94_ok : Tryz.prog.funcs[94]? = some Tryz.f94 ∧ (Tryz.f94.name == "runtime.NumGoroutine") = false := ⟨Tryz.func94, by kernel_rfl⟩
theorem fn95_ok : Tryz.prog.funcs[95]? = some Tryz.f95 ∧ (Tryz.f95.name == "runtime.NumGoroutine") = false := ⟨Tryz.func95, by kernel_rfl⟩
theorem fn96_ok : Tryz.prog.funcs[96]? = some Tryz.f96 ∧ (Tryz.f96.name == "runtime.NumGoroutine") = false := ⟨Tryz.func96, by kernel_rfl⟩
theorem fn97_ok : Tryz.prog.funcs[97]? = some Tryz.f97 ∧ (Tryz.f97.name == "runtime.NumGoroutine") = false := ⟨Tryz.func97, by kernel_rfl⟩
theorem fn98_ok : Tryz.prog.funcs[98]? = some Tryz.f98 ∧ (Tryz.f98.name == "runtime.NumGoroutine") = false := ⟨Tryz.func98, by kernel_rfl⟩
theorem fn99_ok : Tryz.prog.funcs[99]? = some Tryz.f99 ∧ (Tryz.f99.name == "runtime.NumGoroutine") = false := ⟨Tryz.func99, by kernel_rfl⟩
theorem fn100_ok : Tryz.prog.funcs[100]? = some Tryz.f100 ∧ (Tryz.f100.name == "runtime.NumGoroutine") = false := ⟨Tryz.func100, by kernel_rfl⟩
theorem fn101_ok : Tryz.prog.funcs[101]? = some Tryz.f101 ∧ (Tryz.f101.name == "runtime.NumGoroutine") = false := ⟨Tryz.func101, by kernel_rfl⟩
theorem fn102_ok : Tryz.prog.funcs[102]? = some Tryz.f102 ∧ (Tryz.f102.name == "runtime.NumGoroutine") = false := ⟨Tryz.func102, by kernel_rfl⟩
theorem fn103_ok : Tryz.prog.funcs[103]? = some Tryz.f103 ∧ (Tryz.f103.name == "runtime.NumGoroutine") = false := ⟨Tryz.func103, by kernel_rfl⟩
theorem fn104_ok : Tryz.prog.funcs[104]? = some Tryz.f104 ∧ (Tryz.f104.name == "runtime.NumGoroutine") = false := ⟨Tryz.func104, by kernel_rfl⟩
theorem fn105_ok : Tryz.prog.funcs[105]? = some Tryz.f105 ∧ (Tryz.f105.name == "runtime.NumGoroutine") = false := ⟨Tryz.func105, by kernel_rfl⟩
theorem fn106_ok : Tryz.prog.funcs[106]? = some Tryz.f106 ∧ (Tryz.f106.name == "runtime.NumGoroutine") = false := ⟨Tryz.func106, by kernel_rfl⟩
theorem fn107_ok : Tryz.prog.funcs[107]? = some Tryz.f107 ∧ (Tryz.f107.name == "runtime.NumGoroutine") = false := ⟨Tryz.func107, by kernel_rfl⟩
theorem fn108_ok : Tryz.prog.funcs[108]? = some Tryz.f108 ∧ (Tryz.f108.name == "runtime.NumGoroutine") = false := ⟨Tryz.func108, by kernel_rfl⟩
theorem fn109_ok : Tryz.prog.funcs[109]? = some Tryz.f109 ∧ (Tryz.f109.name == "runtime.NumGoroutine") = false := ⟨Tryz.func109, by kernel_rfl⟩
theorem fn110_ok : Tryz.prog.funcs[110]? = some Tryz.f110 ∧ (Tryz.f110.name == "runtime.NumGoroutine") = false := ⟨Tryz.func110, by kernel_rfl⟩
theorem fn111_ok : Tryz.prog.funcs[111]? = some Tryz.f111 ∧ (Tryz.f111.name == "runtime.NumGoroutine") = false := ⟨Tryz.func111, by kernel_rfl⟩
theorem fn112_ok : Tryz.prog.funcs[112]? = some Tryz.f112 ∧ (Tryz.f112.name == "runtime.NumGoroutine") = false := ⟨Tryz.func112, by kernel_rfl⟩
theorem fn113_ok : Tryz.prog.funcs[113]? = some Tryz.f113 ∧ (Tryz.f113.name == "runtime.NumGoroutine") = false := ⟨Tryz.func113, by kernel_rfl⟩
theorem fn114_ok : Tryz.prog.funcs[114]? = some Tryz.f114 ∧ (Tryz.f114.name == "runtime.NumGoroutine") = false := ⟨Tryz.func114, by kernel_rfl⟩
theorem fn115_ok : Tryz.prog.funcs[115]? = some Tryz.f115 ∧ (Tryz.f115.name == "runtime.NumGoroutine") = false := ⟨Tryz.func115, by kernel_rfl⟩
theorem fn116_ok : Tryz.prog.funcs[116]? = some Tryz.f116 ∧ (Tryz.f116.name == "runtime.NumGoroutine") = false := ⟨Tryz.func116, by kernel_rfl⟩
theorem fn117_ok : Tryz.prog.funcs[117]? = some Tryz.f117 ∧ (Tryz.f117.name == "runtime.NumGoroutine") = false := ⟨Tryz.func117, by kernel_rfl⟩
theorem fn118_ok : Tryz.prog.funcs[118]? = some Tryz.f118 ∧ (Tryz.f118.name == "runtime.NumGoroutine") = false := ⟨Tryz.func118, by kernel_rfl⟩
theorem fn119_ok : Tryz.prog.funcs[119]? = some Tryz.f119 ∧ (Tryz.f119.name == "runtime.NumGoroutine") = false := ⟨Tryz.func119, by kernel_rfl⟩
theorem fn120_ok : Tryz.prog.funcs[120]? = some Tryz.f120 ∧ (Tryz.f120.name == "runtime.NumGoroutine") = false := ⟨Tryz.func120, by kernel_rfl⟩
theorem fn121_ok : Tryz.prog.funcs[121]? = some Tryz.f121 ∧ (Tryz.f121.name == "runtime.NumGoroutine") = false := ⟨Tryz.func121, by kernel_rfl⟩
theorem fn122_ok : Tryz.prog.funcs[122]? = some Tryz.f122 ∧ (Tryz.f122.name == "runtime.NumGoroutine") = false := ⟨Tryz.func122, by kernel_rfl⟩
theorem fn123_ok : Tryz.prog.funcs[123]? = some Tryz.f123 ∧ (Tryz.f123.name == "runtime.NumGoroutine") = false := ⟨Tryz.func123, by kernel_rfl⟩
theorem fn124_ok : Tryz.prog.funcs[124]? = some Tryz.f124 ∧ (Tryz.f124.name == "runtime.NumGoroutine") = false := ⟨Tryz.func124, by kernel_rfl⟩
theorem fn125_ok : Tryz.prog.funcs[125]? = some Tryz.f125 ∧ (Tryz.f125.name == "runtime.NumGoroutine") = false := ⟨Tryz.func125, by kernel_rfl⟩
theorem fn126_ok : Tryz.prog.funcs[126]? = some Tryz.f126 ∧ (Tryz.f126.name == "runtime.NumGoroutine") = false := ⟨Tryz.func126, by kernel_rfl⟩
theorem fn127_ok : Tryz.prog.funcs[127]? = some Tryz.f127 ∧ (Tryz.f127.name == "runtime.NumGoroutine") = false := ⟨Tryz.func127, by kernel_rfl⟩
theorem fn128_ok : Tryz.prog.funcs[128]? = some Tryz.f128 ∧ (Tryz.f128.name == "runtime.NumGoroutine") = false := ⟨Tryz.func128, by kernel_rfl⟩
theorem fn129_ok : Tryz.prog.funcs[129]? = some Tryz.f129 ∧ (Tryz.f129.name == "runtime.NumGoroutine") = false := ⟨Tryz.func129, by kernel_rfl⟩
theorem fn130_ok : Tryz.prog.funcs[130]? = some Tryz.f130 ∧ (Tryz.f130.name == "runtime.NumGoroutine") = false := ⟨Tryz.func130, by kernel_rfl⟩
theorem fn131_ok : Tryz.prog.funcs[131]? = some Tryz.f131 ∧ (Tryz.f131.name == "runtime.NumGoroutine") = false := ⟨Tryz.func131, by kernel_rfl⟩
theorem fn132_ok : Tryz.prog.funcs[132]? = some Tryz.f132 ∧ (Tryz.f132.name == "runtime.NumGoroutine") = false := ⟨Tryz.func132, by kernel_rfl⟩
theorem fn133_ok : Tryz.prog.funcs[133]? = some Tryz.f133 ∧ (Tryz.f133.name == "runtime.NumGoroutine") = false := ⟨Tryz.func133, by kernel_rfl⟩
theorem fn134_ok : Tryz.prog.funcs[134]? = some Tryz.f134 ∧ (Tryz.f134.name == "runtime.NumGoroutine") = false := ⟨Tryz.func134, by kernel_rfl⟩
theorem fn135_ok : Tryz.prog.funcs[135]? = some Tryz.f135 ∧ (Tryz.f135.name == "runtime.NumGoroutine") = false := ⟨Tryz.func135, by kernel_rfl⟩
theorem fn136_ok : Tryz.prog.funcs[136]? = some Tryz.f136 ∧ (Tryz.f136.name == "runtime.NumGoroutine") = false := ⟨Tryz.func136, by kernel_rfl⟩
theorem fn137_ok : Tryz.prog.funcs[137]? = some Tryz.f137 ∧ (Tryz.f137.name == "runtime.NumGoroutine") = false := ⟨Tryz.func137, by kernel_rfl⟩
theorem fn138_ok : Tryz.prog.funcs[138]? = some Tryz.f138 ∧ (Tryz.f138.name == "runtime.NumGoroutine") = false := ⟨Tryz.func138, by kernel_rfl⟩
theorem fn139_ok : Tryz.prog.funcs[139]? = some Tryz.f139 ∧ (Tryz.f139.name == "runtime.NumGoroutine") = false := ⟨Tryz.func139, by kernel_rfl⟩
theorem fn140_ok : Tryz.prog.funcs[140]? = some Tryz.f140 ∧ (Tryz.f140.name == "runtime.NumGoroutine") = false := ⟨Tryz.func140, by kernel_rfl⟩
theorem fn141_ok : Tryz.prog.funcs[141]? = some Tryz.f141 ∧ (Tryz.f141.name == "runtime.NumGoroutine") = false := ⟨Tryz.func141, by kernel_rfl⟩
theorem fn142_ok : Tryz.prog.funcs[142]? = some Tryz.f142 ∧ (Tryz.f142.name == "runtime.NumGoroutine") = false := ⟨Tryz.func142, by kernel_rfl⟩
theorem fn143_ok : Tryz.prog.funcs[143]? = some Tryz.f143 ∧ (Tryz.f143.name == "runtime.NumGoroutine") = false := ⟨Tryz.func143, by kernel_rfl⟩
theorem fn144_ok : Tryz.prog.funcs[144]? = some Tryz.f144 ∧ (Tryz.f144.name == "runtime.NumGoroutine") = false := ⟨Tryz.func144, by kernel_rfl⟩
theorem fn145_ok : Tryz.prog.funcs[145]? = some Tryz.f145 ∧ (Tryz.f145.name == "runtime.NumGoroutine") = false := ⟨Tryz.func145, by kernel_rfl⟩
theorem fn146_ok : Tryz.prog.funcs[146]? = some Tryz.f146 ∧ (Tryz.f146.name == "runtime.NumGoroutine") = false := ⟨Tryz.func146, by kernel_rfl⟩
theorem fn147_ok : Tryz.prog.funcs[147]? = some Tryz.f147 ∧ (Tryz.f147.name == "runtime.NumGoroutine") = false := ⟨Tryz.func147, by kernel_rfl⟩
theorem fn148_ok : Tryz.prog.funcs[148]? = some Tryz.f148 ∧ (Tryz.f148.name == "runtime.NumGoroutine") = false := ⟨Tryz.func148, by kernel_rfl⟩
theorem fn149_ok : Tryz.prog.funcs[149]? = some Tryz.f149 ∧ (Tryz.f149.name == "runtime.NumGoroutine") = false := ⟨Tryz.func149, by kernel_rfl⟩
theorem fn150_ok : Tryz.prog.funcs[150]? = some Tryz.f150 ∧ (Tryz.f150.name == "runtime.NumGoroutine") = false := ⟨Tryz.func150, by kernel_rfl⟩
theorem fn151_ok : Tryz.prog.funcs[151]? = some Tryz.f151 ∧ (Tryz.f151.name == "runtime.NumGoroutine") = false := ⟨Tryz.func151, by kernel_rfl⟩
theorem fn152_ok : Tryz.prog.funcs[152]? = some Tryz.f152 ∧ (Tryz.f152.name == "runtime.NumGoroutine") = false := ⟨Tryz.func152, by kernel_rfl⟩
theorem fn153_ok : Tryz.prog.funcs[153]? = some Tryz.f153 ∧ (Tryz.f153.name == "runtime.NumGoroutine") = false := ⟨Tryz.func153, by kernel_rfl⟩
theorem fn154_ok : Tryz.prog.funcs[154]? = some Tryz.f154 ∧ (Tryz.f154.name == "runtime.NumGoroutine") = false := ⟨Tryz.func154, by kernel_rfl⟩
theorem fn155_ok : Tryz.prog.funcs[155]? = some Tryz.f155 ∧ (Tryz.f155.name == "runtime.NumGoroutine") = false := ⟨Tryz.func155, by kernel_rfl⟩
theorem fn156_ok : Tryz.prog.funcs[156]? = some Tryz.f156 ∧ (Tryz.f156.name == "runtime.NumGoroutine") = false := ⟨Tryz.func156, by kernel_rfl⟩
theorem fn157_ok : Tryz.prog.funcs[157]? = some Tryz.f157 ∧ (Tryz.f157.name == "runtime.NumGoroutine") = false := ⟨Tryz.func157, by kernel_rfl⟩
theorem fn158_ok : Tryz.prog.funcs[158]? = some Tryz.f158 ∧ (Tryz.f158.name == "runtime.NumGoroutine") = false := ⟨Tryz.func158, by kernel_rfl⟩
theorem fn159_ok : Tryz.prog.funcs[159]? = some Tryz.f159 ∧ (Tryz.f159.name == "runtime.NumGoroutine") = false := ⟨Tryz.func159, by kernel_rfl⟩
theorem fn160_ok : Tryz.prog.funcs[160]? = some Tryz.f160 ∧ (Tryz.f160.name == "runtime.NumGoroutine") = false := ⟨Tryz.func160, by kernel_rfl⟩
theorem fn161_ok : Tryz.prog.funcs[161]? = some Tryz.f161 ∧ (Tryz.f161.name == "runtime.NumGoroutine") = false := ⟨Tryz.func161, by kernel_rfl⟩
theorem fn162_ok : Tryz.prog.funcs[162]? = some Tryz.f162 ∧ (Tryz.f162.name == "runtime.NumGoroutine") = false := ⟨Tryz.func162, by kernel_rfl⟩
theorem fn163_ok : Tryz.prog.funcs[163]? = some Tryz.f163 ∧ (Tryz.f163.name == "runtime.NumGoroutine") = false := ⟨Tryz.func163, by kernel_rfl⟩
theorem fn164_ok : Tryz.prog.funcs[164]? = some Tryz.f164 ∧ (Tryz.f164.name == "runtime.NumGoroutine") = false := ⟨Tryz.func164, by kernel_rfl⟩
theorem fn165_ok : Tryz.prog.funcs[165]? = some Tryz.f165 ∧ (Tryz.f165.name == "runtime.NumGoroutine") = false := ⟨Tryz.func165, by kernel_rfl⟩
theorem fn166_ok : Tryz.prog.funcs[166]? = some Tryz.f166 ∧ (Tryz.f166.name == "runtime.NumGoroutine") = false := ⟨Tryz.func166, by kernel_rfl⟩
theorem fn167_ok : Tryz.prog.funcs[167]? = some Tryz.f167 ∧ (Tryz.f167.name == "runtime.NumGoroutine") = false := ⟨Tryz.func167, by kernel_rfl⟩
theorem fn168_ok : Tryz.prog.funcs[168]? = some Tryz.f168 ∧ (Tryz.f168.name == "runtime.NumGoroutine") = false := ⟨Tryz.func168, by kernel_rfl⟩
theorem fn169_ok : Tryz.prog.funcs[169]? = some Tryz.f169 ∧ (Tryz.f169.name == "runtime.NumGoroutine") = false := ⟨Tryz.func169, by kernel_rfl⟩
theorem fn170_ok : Tryz.prog.funcs[170]? = some Tryz.f170 ∧ (Tryz.f170.name == "runtime.NumGoroutine") = false := ⟨Tryz.func170, by kernel_rfl⟩
theorem fn171_ok : Tryz.prog.funcs[171]? = some Tryz.f171 ∧ (Tryz.f171.name == "runtime.NumGoroutine") = false := ⟨Tryz.func171, by kernel_rfl⟩
theorem fn172_ok : Tryz.prog.funcs[172]? = some Tryz.f172 ∧ (Tryz.f172.name == "runtime.NumGoroutine") = false := ⟨Tryz.func172, by kernel_rfl⟩
theorem fn173_ok : Tryz.prog.funcs[173]? = some Tryz.f173 ∧ (Tryz.f173.name == "runtime.NumGoroutine") = false := ⟨Tryz.func173, by kernel_rfl⟩
theorem fn174_ok : Tryz.prog.funcs[174]? = some Tryz.f174 ∧ (Tryz.f174.name == "runtime.NumGoroutine") = false := ⟨Tryz.func174, by kernel_rfl⟩
theorem fn175_ok : Tryz.prog.funcs[175]? = some Tryz.f175 ∧ (Tryz.f175.name == "runtime.NumGoroutine") = false := ⟨Tryz.func175, by kernel_rfl⟩
theorem fn176_ok : Tryz.prog.funcs[176]? = some Tryz.f176 ∧ (Tryz.f176.name == "runtime.NumGoroutine") = false := ⟨Tryz.func176, by kernel_rfl⟩
theorem fn177_ok : Tryz.prog.funcs[177]? = some Tryz.f177 ∧ (Tryz.f177.name == "runtime.NumGoroutine") = false := ⟨Tryz.func177, by kernel_rfl⟩
theorem fn178_ok : Tryz.prog.funcs[178]? = some Tryz.f178 ∧ (Tryz.f178.name == "runtime.NumGoroutine") = false := ⟨Tryz.func178, by kernel_rfl⟩
theorem fn179_ok : Tryz.prog.funcs[179]? = some Tryz.f179 ∧ (Tryz.f179.name == "runtime.NumGoroutine") = false := ⟨Tryz.func179, by kernel_rfl⟩
theorem fn180_ok : Tryz.prog.funcs[180]? = some Tryz.f180 ∧ (Tryz.f180.name == "runtime.NumGoroutine") = false := ⟨Tryz.func180, by kernel_rfl⟩
theorem fn181_ok : Tryz.prog.funcs[181]? = some Tryz.f181 ∧ (Tryz.f181.name == "runtime.NumGoroutine") = false := ⟨Tryz.func181, by kernel_rfl⟩
theorem fn182_ok : Tryz.prog.funcs[182]? = some Tryz.f182 ∧ (Tryz.f182.name == "runtime.NumGoroutine") = false := ⟨Tryz.func182, by kernel_rfl⟩
theorem fn183_ok : Tryz.prog.funcs[183]? = some Tryz.f183 ∧ (Tryz.f183.name == "runtime.NumGoroutine") = false := ⟨Tryz.func183, by kernel_rfl⟩
theorem fn184_ok : Tryz.prog.funcs[184]? = some Tryz.f184 ∧ (Tryz.f184.name == "runtime.NumGoroutine") = false := ⟨Tryz.func184, by kernel_rfl⟩
theorem fn185_ok : Tryz.prog.funcs[185]? = some Tryz.f185 ∧ (Tryz.f185.name == "runtime.NumGoroutine") = false := ⟨Tryz.func185, by kernel_rfl⟩
theorem fn186_ok : Tryz.prog.funcs[186]? = some Tryz.f186 ∧ (Tryz.f186.name == "runtime.NumGoroutine") = false := ⟨Tryz.func186, by kernel_rfl⟩
theorem fn187_ok : Tryz.prog.funcs[187]? = some Tryz.f187 ∧ (Tryz.f187.name == "runtime.NumGoroutine") = false := ⟨Tryz.func187, by kernel_rfl⟩
theorem fn188_ok : Tryz.prog.funcs[188]? = some Tryz.f188 ∧ (Tryz.f188.name == "runtime.NumGoroutine") = false := ⟨Tryz.func188, by kernel_rfl⟩
theorem fn189_ok : Tryz.prog.funcs[189]? = some Tryz.f189 ∧ (Tryz.f189.name == "runtime.NumGoroutine") = false := ⟨Tryz.func189, by kernel_rfl⟩
theorem fn190_ok : Tryz.prog.funcs[190]? = some Tryz.f190 ∧ (Tryz.f190.name == "runtime.NumGoroutine") = false := ⟨Tryz.func190, by kernel_rfl⟩
theorem fn191_ok : Tryz.prog.funcs[191]? = some Tryz.f191 ∧ (Tryz.f191.name == "runtime.NumGoroutine") = false := ⟨Tryz.func191, by kernel_rfl⟩
theorem fn192_ok : Tryz.prog.funcs[192]? = some Tryz.f192 ∧ (Tryz.f192.name == "runtime.NumGoroutine") = false := ⟨Tryz.func192, by kernel_rfl⟩
theorem fn193_ok : Tryz.prog.funcs[193]? = some Tryz.f193 ∧ (Tryz.f193.name == "runtime.NumGoroutine") = false := ⟨Tryz.func193, by kernel_rfl⟩
theorem fn194_ok : Tryz.prog.funcs[194]? = some Tryz.f194 ∧ (Tryz.f194.name == "runtime.NumGoroutine") = false := ⟨Tryz.func194, by kernel_rfl⟩
theorem fn195_ok : Tryz.prog.funcs[195]? = some Tryz.f195 ∧ (Tryz.f195.name == "runtime.NumGoroutine") = false := ⟨Tryz.func195, by kernel_rfl⟩
theorem fn196_ok : Tryz.prog.funcs[196]? = some Tryz.f196 ∧ (Tryz.f196.name == "runtime.NumGoroutine") = false := ⟨Tryz.func196, by kernel_rfl⟩
theorem fn197_ok : Tryz.prog.funcs[197]? = some Tryz.f197 ∧ (Tryz.f197.name == "runtime.NumGoroutine") = false := ⟨Tryz.func197, by kernel_rfl⟩
theorem fn198_ok : Tryz.prog.funcs[198]? = some Tryz.f198 ∧ (Tryz.f198.name == "runtime.NumGoroutine") = false := ⟨Tryz.func198, by kernel_rfl⟩
theorem fn199_ok : Tryz.prog.funcs[199]? = some Tryz.f199 ∧ (Tryz.f199.name == "runtime.NumGoroutine") = false := ⟨Tryz.func199, by kernel_rfl⟩
theorem fn200_ok : Tryz.prog.funcs[200]? = some Tryz.f200 ∧ (Tryz.f200.name == "runtime.NumGoroutine") = false := ⟨Tryz.func200, by kernel_rfl⟩
theorem fn201_ok : Tryz.prog.funcs[201]? = some Tryz.f201 ∧ (Tryz.f201.name == "runtime.NumGoroutine") = false := ⟨Tryz.func201, by kernel_rfl⟩
theorem fn202_ok : Tryz.prog.funcs[202]? = some Tryz.f202 ∧ (Tryz.f202.name == "runtime.NumGoroutine") = false := ⟨Tryz.func202, by kernel_rfl⟩
theorem fn203_ok : Tryz.prog.funcs[203]? = some Tryz.f203 ∧ (Tryz.f203.name == "runtime.NumGoroutine") = false := ⟨Tryz.func203, by kernel_rfl⟩
theorem fn204_ok : Tryz.prog.funcs[204]? = some Tryz.f204 ∧ (Tryz.f204.name == "runtime.NumGoroutine") = false := ⟨Tryz.func204, by kernel_rfl⟩
theorem fn205_ok : Tryz.prog.funcs[205]? = some Tryz.f205 ∧ (Tryz.f205.name == "runtime.NumGoroutine") = false := ⟨Tryz.func205, by kernel_rfl⟩
theorem fn206_ok : Tryz.prog.funcs[206]? = some Tryz.f206 ∧ (Tryz.f206.name == "runtime.NumGoroutine") = false := ⟨Tryz.func206, by kernel_rfl⟩
theorem fn207_ok : Tryz.prog.funcs[207]? = some Tryz.f207 ∧ (Tryz.f207.name == "runtime.NumGoroutine") = false := ⟨Tryz.func207, by kernel_rfl⟩
theorem fn208_ok : Tryz.prog.funcs[208]? = some Tryz.f208 ∧ (Tryz.f208.name == "runtime.NumGoroutine") = false := ⟨Tryz.func208, by kernel_rfl⟩
theorem fn209_ok : Tryz.prog.funcs[209]? = some Tryz.f209 ∧ (Tryz.f209.name == "runtime.NumGoroutine") = false := ⟨Tryz.func209, by kernel_rfl⟩
theorem fn210_ok : Tryz.prog.funcs[210]? = some Tryz.f210 ∧ (Tryz.f210.name == "runtime.NumGoroutine") = false := ⟨Tryz.func210, by kernel_rfl⟩
theorem fn211_ok : Tryz.prog.funcs[211]? = some Tryz.f211 ∧ (Tryz.f211.name == "runtime.NumGoroutine") = false := ⟨Tryz.func211, by kernel_rfl⟩
theorem fn212_ok : Tryz.prog.funcs[212]? = some Tryz.f212 ∧ (Tryz.f212.name == "runtime.NumGoroutine") = false := ⟨Tryz.func212, by kernel_rfl⟩
theorem fn213_ok : Tryz.prog.funcs[213]? = some Tryz.f213 ∧ (Tryz.f213.name == "runtime.NumGoroutine") = false := ⟨Tryz.func213, by kernel_rfl⟩
theorem fn214_ok : Tryz.prog.funcs[214]? = some Tryz.f214 ∧ (Tryz.f214.name == "runtime.NumGoroutine") = false := ⟨Tryz.func214, by kernel_rfl⟩
theorem fn215_ok : Tryz.prog.funcs[215]? = some Tryz.f215 ∧ (Tryz.f215.name == "runtime.NumGoroutine") = false := ⟨Tryz.func215, by kernel_rfl⟩
theorem fn216_ok : Tryz.prog.funcs[216]? = some Tryz.f216 ∧ (Tryz.f216.name == "runtime.NumGoroutine") = false := ⟨Tryz.func216, by kernel_rfl⟩
theorem fn217_ok : Tryz.prog.funcs[217]? = some Tryz.f217 ∧ (Tryz.f217.name == "runtime.NumGoroutine") = false := ⟨Tryz.func217, by kernel_rfl⟩
theorem fn218_ok : Tryz.prog.funcs[218]? = some Tryz.f218 ∧ (Tryz.f218.name == "runtime.NumGoroutine") = false := ⟨Tryz.func218, by kernel_rfl⟩
theorem fn219_ok : Tryz.prog.funcs[219]? = some Tryz.f219 ∧ (Tryz.f219.name == "runtime.NumGoroutine") = false := ⟨Tryz.func219, by kernel_rfl⟩
theorem fn220_ok : Tryz.prog.funcs[220]? = some Tryz.f220 ∧ (Tryz.f220.name == "runtime.NumGoroutine") = false := ⟨Tryz.func220, by kernel_rfl⟩
theorem fn221_ok : Tryz.prog.funcs[221]? = some Tryz.f221 ∧ (Tryz.f221.name == "runtime.NumGoroutine") = false := ⟨Tryz.func221, by kernel_rfl⟩
theorem fn222_ok : Tryz.prog.funcs[222]? = some Tryz.f222 ∧ (Tryz.f222.name == "runtime.NumGoroutine") = false := ⟨Tryz.func222, by kernel_rfl⟩
theorem fn223_ok : Tryz.prog.funcs[223]? = some Tryz.f223 ∧ (Tryz.f223.name == "runtime.NumGoroutine") = false := ⟨Tryz.func223, by kernel_rfl⟩
theorem fn224_ok : Tryz.prog.funcs[224]? = some Tryz.f224 ∧ (Tryz.f224.name == "runtime.NumGoroutine") = false := ⟨Tryz.func224, by kernel_rfl⟩
theorem fn225_ok : Tryz.prog.funcs[225]? = some Tryz.f225 ∧ (Tryz.f225.name == "runtime.NumGoroutine") = false := ⟨Tryz.func225, by kernel_rfl⟩
theorem fn226_ok : Tryz.prog.funcs[226]? = some Tryz.f226 ∧ (Tryz.f226.name == "runtime.NumGoroutine") = false := ⟨Tryz.func226, by kernel_rfl⟩
theorem fn227_ok : Tryz.prog.funcs[227]? = some Tryz.f227 ∧ (Tryz.f227.name == "runtime.NumGoroutine") = false := ⟨Tryz.func227, by kernel_rfl⟩
theorem fn228_ok : Tryz.prog.funcs[228]? = some Tryz.f228 ∧ (Tryz.f228.name == "runtime.NumGoroutine") = false := ⟨Tryz.func228, by kernel_rfl⟩
theorem fn229_ok : Tryz.prog.funcs[229]? = some Tryz.f229 ∧ (Tryz.f229.name == "runtime.NumGoroutine") = false := ⟨Tryz.func229, by kernel_rfl⟩
theorem fn230_ok : Tryz.prog.funcs[230]? = some Tryz.f230 ∧ (Tryz.f230.name == "runtime.NumGoroutine") = false := ⟨Tryz.func230, by kernel_rfl⟩
theorem fn231_ok : Tryz.prog.funcs[231]? = some Tryz.f231 ∧ (Tryz.f231.name == "runtime.NumGoroutine") = false := ⟨Tryz.func231, by kernel_rfl⟩
theorem fn232_ok : Tryz.prog.funcs[232]? = some Tryz.f232 ∧ (Tryz.f232.name == "runtime.NumGoroutine") = false := ⟨Tryz.func232, by kernel_rfl⟩
theorem fn233_ok : Tryz.prog.funcs[233]? = some Tryz.f233 ∧ (Tryz.f233.name == "runtime.NumGoroutine") = false := ⟨Tryz.func233, by kernel_rfl⟩
theorem fn234_ok : Tryz.prog.funcs[234]? = some Tryz.f234 ∧ (Tryz.f234.name == "runtime.NumGoroutine") = false := ⟨Tryz.func234, by kernel_rfl⟩
theorem fn235_ok : Tryz.prog.funcs[235]? = some Tryz.f235 ∧ (Tryz.f235.name == "runtime.NumGoroutine") = false := ⟨Tryz.func235, by kernel_rfl⟩
theorem fn236_ok : Tryz.prog.funcs[236]? = some Tryz.f236 ∧ (Tryz.f236.name == "runtime.NumGoroutine") = false := ⟨Tryz.func236, by kernel_rfl⟩
theorem fn237_ok : Tryz.prog.funcs[237]? = some Tryz.f237 ∧ (Tryz.f237.name == "runtime.NumGoroutine") = false := ⟨Tryz.func237, by kernel_rfl⟩
theorem fn238_ok : Tryz.prog.funcs[238]? = some Tryz.f238 ∧ (Tryz.f238.name == "runtime.NumGoroutine") = false := ⟨Tryz.func238, by kernel_rfl⟩
theorem fn239_ok : Tryz.prog.funcs[239]? = some Tryz.f239 ∧ (Tryz.f239.name == "runtime.NumGoroutine") = false := ⟨Tryz.func239, by kernel_rfl⟩
theorem fn240_ok : Tryz.prog.funcs[240]? = some Tryz.f240 ∧ (Tryz.f240.name == "runtime.NumGoroutine") = false := ⟨Tryz.func240, by kernel_rfl⟩
theorem fn241_ok : Tryz.prog.funcs[241]? = some Tryz.f241 ∧ (Tryz.f241.name == "runtime.NumGoroutine") = false := ⟨Tryz.func241, by kernel_rfl⟩
theorem fn242_ok : Tryz.prog.funcs[242]? = some Tryz.f242 ∧ (Tryz.f242.name == "runtime.NumGoroutine") = false := ⟨Tryz.func242, by kernel_rfl⟩
theorem fn243_ok : Tryz.prog.funcs[243]? = some Tryz.f243 ∧ (Tryz.f243.name == "runtime.NumGoroutine") = false := ⟨Tryz.func243, by kernel_rfl⟩
theorem fn244_ok : Tryz.prog.funcs[244]? = some Tryz.f244 ∧ (Tryz.f244.name == "runtime.NumGoroutine") = false := ⟨Tryz.func244, by kernel_rfl⟩
theorem fn245_ok : Tryz.prog.funcs[245]? = some Tryz.f245 ∧ (Tryz.f245.name == "runtime.NumGoroutine") = false := ⟨Tryz.func245, by kernel_rfl⟩
theorem fn246_ok : Tryz.prog.funcs[246]? = some Tryz.f246 ∧ (Tryz.f246.name == "runtime.NumGoroutine") = false := ⟨Tryz.func246, by kernel_rfl⟩
theorem fn247_ok : Tryz.prog.funcs[247]? = some Tryz.f247 ∧ (Tryz.f247.name == "runtime.NumGoroutine") = false := ⟨Tryz.func247, by kernel_rfl⟩
theorem fn248_ok : Tryz.prog.funcs[248]? = some Tryz.f248 ∧ (Tryz.f248.name == "runtime.NumGoroutine") = false := ⟨Tryz.func248, by kernel_rfl⟩
theorem fn249_ok : Tryz.prog.funcs[249]? = some Tryz.f249 ∧ (Tryz.f249.name == "runtime.NumGoroutine") = false := ⟨Tryz.func249, by kernel_rfl⟩
theorem fn250_ok : Tryz.prog.funcs[250]? = some Tryz.f250 ∧ (Tryz.f250.name == "runtime.NumGoroutine") = false := ⟨Tryz.func250, by kernel_rfl⟩
theorem fn251_ok : Tryz.prog.funcs[251]? = some Tryz.f251 ∧ (Tryz.f251.name == "runtime.NumGoroutine") = false := ⟨Tryz.func251, by kernel_rfl⟩
theorem fn252_ok : Tryz.prog.funcs[252]? = some Tryz.f252 ∧ (Tryz.f252.name == "runtime.NumGoroutine") = false := ⟨Tryz.func252, by kernel_rfl⟩
theorem fn253_ok : Tryz.prog.funcs[253]? = some Tryz.f253 ∧ (Tryz.f253.name == "runtime.NumGoroutine") = false := ⟨Tryz.func253, by kernel_rfl⟩
theorem fn254_ok : Tryz.prog.funcs[254]? = some Tryz.f254 ∧ (Tryz.f254.name == "runtime.NumGoroutine") = false := ⟨Tryz.func254, by kernel_rfl⟩
theorem fn255_ok : Tryz.prog.funcs[255]? = some Tryz.f255 ∧ (Tryz.f255.name == "runtime.NumGoroutine") = false := ⟨Tryz.func255, by kernel_rfl⟩
theorem fn256_ok : Tryz.prog.funcs[256]? = some Tryz.f256 ∧ (Tryz.f256.name == "runtime.NumGoroutine") = false := ⟨Tryz.func256, by kernel_rfl⟩
theorem fn257_ok : Tryz.prog.funcs[257]? = some Tryz.f257 ∧ (Tryz.f257.name == "runtime.NumGoroutine") = false := ⟨Tryz.func257, by kernel_rfl⟩
theorem fn258_ok : Tryz.prog.funcs[258]? = some Tryz.f258 ∧ (Tryz.f258.name == "runtime.NumGoroutine") = false := ⟨Tryz.func258, by kernel_rfl⟩
theorem fn259_ok : Tryz.prog.funcs[259]? = some Tryz.f259 ∧ (Tryz.f259.name == "runtime.NumGoroutine") = false := ⟨Tryz.func259, by kernel_rfl⟩
theorem fn260_ok : Tryz.prog.funcs[260]? = some Tryz.f260 ∧ (Tryz.f260.name == "runtime.NumGoroutine") = false := ⟨Tryz.func260, by kernel_rfl⟩
theorem fn261_ok : Tryz.prog.funcs[261]? = some Tryz.f261 ∧ (Tryz.f261.name == "runtime.NumGoroutine") = false := ⟨Tryz.func261, by kernel_rfl⟩
theorem fn262_ok : Tryz.prog.funcs[262]? = some Tryz.f262 ∧ (Tryz.f262.name == "runtime.NumGoroutine") = false := ⟨Tryz.func262, by kernel_rfl⟩
theorem fn263_ok : Tryz.prog.funcs[263]? = some Tryz.f263 ∧ (Tryz.f263.name == "runtime.NumGoroutine") = false := ⟨Tryz.func263, by kernel_rfl⟩
theorem fn264_ok : Tryz.prog.funcs[264]? = some Tryz.f264 ∧ (Tryz.f264.name == "runtime.NumGoroutine") = false := ⟨Tryz.func264, by kernel_rfl⟩
theorem fn265_ok : Tryz.prog.funcs[265]? = some Tryz.f265 ∧ (Tryz.f265.name == "runtime.NumGoroutine") = false := ⟨Tryz.func265, by kernel_rfl⟩
theorem fn266_ok : Tryz.prog.funcs[266]? = some Tryz.f266 ∧ (Tryz.f266.name == "runtime.NumGoroutine") = false := ⟨Tryz.func266, by kernel_rfl⟩
theorem fn267_ok : Tryz.prog.funcs[267]? = some Tryz.f267 ∧ (Tryz.f267.name == "runtime.NumGoroutine") = false := ⟨Tryz.func267, by kernel_rfl⟩
theorem fn268_ok : Tryz.prog.funcs[268]? = some Tryz.f268 ∧ (Tryz.f268.name == "runtime.NumGoroutine") = false := ⟨Tryz.func268, by kernel_rfl⟩
theorem fn269_ok : Tryz.prog.funcs[269]? = some Tryz.f269 ∧ (Tryz.f269.name == "runtime.NumGoroutine") = false := ⟨Tryz.func269, by kernel_rfl⟩
theorem fn270_ok : Tryz.prog.funcs[270]? = some Tryz.f270 ∧ (Tryz.f270.name == "runtime.NumGoroutine") = false := ⟨Tryz.func270, by kernel_rfl⟩
theorem fn271_ok : Tryz.prog.funcs[271]? = some Tryz.f271 ∧ (Tryz.f271.name == "runtime.NumGoroutine") = false := ⟨Tryz.func271, by kernel_rfl⟩
theorem fn272_ok : Tryz.prog.funcs[272]? = some Tryz.f272 ∧ (Tryz.f272.name == "runtime.NumGoroutine") = false := ⟨Tryz.func272, by kernel_rfl⟩
theorem fn273_ok : Tryz.prog.funcs[273]? = some Tryz.f273 ∧ (Tryz.f273.name == "runtime.NumGoroutine") = false := ⟨Tryz.func273, by kernel_rfl⟩
theorem fn274_ok : Tryz.prog.funcs[274]? = some Tryz.f274 ∧ (Tryz.f274.name == "runtime.NumGoroutine") = false := ⟨Tryz.func274, by kernel_rfl⟩
theorem fn275_ok : Tryz.prog.funcs[275]? = some Tryz.f275 ∧ (Tryz.f275.name == "runtime.NumGoroutine") = false := ⟨Tryz.func275, by kernel_rfl⟩
theorem fn276_ok : Tryz.prog.funcs[276]? = some Tryz.f276 ∧ (Tryz.f276.name == "runtime.NumGoroutine") = false := ⟨Tryz.func276, by kernel_rfl⟩
theorem fn277_ok : Tryz.prog.funcs[277]? = some Tryz.f277 ∧ (Tryz.f277.name == "runtime.NumGoroutine") = false := ⟨Tryz.func277, by kernel_rfl⟩
theorem fn278_ok : Tryz.prog.funcs[278]? = some Tryz.f278 ∧ (Tryz.f278.name == "runtime.NumGoroutine") = false := ⟨Tryz.func278, by kernel_rfl⟩
theorem fn279_ok : Tryz.prog.funcs[279]? = some Tryz.f279 ∧ (Tryz.f279.name == "runtime.NumGoroutine") = false := ⟨Tryz.func279, by kernel_rfl⟩
theorem fn280_ok : Tryz.prog.funcs[280]? = some Tryz.f280 ∧ (Tryz.f280.name == "runtime.NumGoroutine") = false := ⟨Tryz.func280, by kernel_rfl⟩
theorem fn281_ok : Tryz.prog.funcs[281]? = some Tryz.f281 ∧ (Tryz.f281.name == "runtime.NumGoroutine") = false := ⟨Tryz.func281, by kernel_rfl⟩
theorem fn282_ok : Tryz.prog.funcs[282]? = some Tryz.f282 ∧ (Tryz.f282.name == "runtime.NumGoroutine") = false := ⟨Tryz.func282, by kernel_rfl⟩
theorem fn283_ok : Tryz.prog.funcs[283]? = some Tryz.f283 ∧ (Tryz.f283.name == "runtime.NumGoroutine") = false := ⟨Tryz.func283, by kernel_rfl⟩
theorem fn284_ok : Tryz.prog.funcs[284]? = some Tryz.f284 ∧ (Tryz.f284.name == "runtime.NumGoroutine") = false := ⟨Tryz.func284, by kernel_rfl⟩
theorem fn285_ok : Tryz.prog.funcs[285]? = some Tryz.f285 ∧ (Tryz.f285.name == "runtime.NumGoroutine") = false := ⟨Tryz.func285, by kernel_rfl⟩
theorem fn286_ok : Tryz.prog.funcs[286]? = some Tryz.f286 ∧ (Tryz.f286.name == "runtime.NumGoroutine") = false := ⟨Tryz.func286, by kernel_rfl⟩
theorem fn287_ok : Tryz.prog.funcs[287]? = some Tryz.f287 ∧ (Tryz.f287.name == "runtime.NumGoroutine") = false := ⟨Tryz.func287, by kernel_rfl⟩
theorem fn288_ok : Tryz.prog.funcs[288]? = some Tryz.f288 ∧ (Tryz.f288.name == "runtime.NumGoroutine") = false := ⟨Tryz.func288, by kernel_rfl⟩
theorem fn289_ok : Tryz.prog.funcs[289]? = some Tryz.f289 ∧ (Tryz.f289.name == "runtime.NumGoroutine") = false := ⟨Tryz.func289, by kernel_rfl⟩
theorem fn290_ok : Tryz.prog.funcs[290]? = some Tryz.f290 ∧ (Tryz.f290.name == "runtime.NumGoroutine") = false := ⟨Tryz.func290, by kernel_rfl⟩
theorem fn291_ok : Tryz.prog.funcs[291]? = some Tryz.f291 ∧ (Tryz.f291.name == "runtime.NumGoroutine") = false := ⟨Tryz.func291, by kernel_rfl⟩
theorem fn292_ok : Tryz.prog.funcs[292]? = some Tryz.f292 ∧ (Tryz.f292.name == "runtime.NumGoroutine") = false := ⟨Tryz.func292, by kernel_rfl⟩
theorem fn293_ok : Tryz.prog.funcs[293]? = some Tryz.f293 ∧ (Tryz.f293.name == "runtime.NumGoroutine") = false := ⟨Tryz.func293, by kernel_rfl⟩
theorem fn294_ok : Tryz.prog.funcs[294]? = some Tryz.f294 ∧ (Tryz.f294.name == "runtime.NumGoroutine") = false := ⟨Tryz.func294, by kernel_rfl⟩
theorem fn295_ok : Tryz.prog.funcs[295]? = some Tryz.f295 ∧ (Tryz.f295.name == "runtime.NumGoroutine") = false := ⟨Tryz.func295, by kernel_rfl⟩
theorem fn296_ok : Tryz.prog.funcs[296]? = some Tryz.f296 ∧ (Tryz.f296.name == "runtime.NumGoroutine") = false := ⟨Tryz.func296, by kernel_rfl⟩
theorem fn297_ok : Tryz.prog.funcs[297]? = some Tryz.f297 ∧ (Tryz.f297.name == "runtime.NumGoroutine") = false := ⟨Tryz.func297, by kernel_rfl⟩
theorem fn298_ok : Tryz.prog.funcs[298]? = some Tryz.f298 ∧ (Tryz.f298.name == "runtime.NumGoroutine") = false := ⟨Tryz.func298, by kernel_rfl⟩
theorem fn299_ok : Tryz.prog.funcs[299]? = some Tryz.f299 ∧ (Tryz.f299.name == "runtime.NumGoroutine") = false := ⟨Tryz.func299, by kernel_rfl⟩
theorem fn300_ok : Tryz.prog.funcs[300]? = some Tryz.f300 ∧ (Tryz.f300.name == "runtime.NumGoroutine") = false := ⟨Tryz.func300, by kernel_rfl⟩
theorem fn301_ok : Tryz.prog.funcs[301]? = some Tryz.f301 ∧ (Tryz.f301.name == "runtime.NumGoroutine") = false := ⟨Tryz.func301, by kernel_rfl⟩
theorem fn302_ok : Tryz.prog.funcs[302]? = some Tryz.f302 ∧ (Tryz.f302.name == "runtime.NumGoroutine") = false := ⟨Tryz.func302, by kernel_rfl⟩
theorem fn303_ok : Tryz.prog.funcs[303]? = some Tryz.f303 ∧ (Tryz.f303.name == "runtime.NumGoroutine") = false := ⟨Tryz.func303, by kernel_rfl⟩
theorem fn304_ok : Tryz.prog.funcs[304]? = some Tryz.f304 ∧ (Tryz.f304.name == "runtime.NumGoroutine") = false := ⟨Tryz.func304, by kernel_rfl⟩
theorem fn305_ok : Tryz.prog.funcs[305]? = some Tryz.f305 ∧ (Tryz.f305.name == "runtime.NumGoroutine") = false := ⟨Tryz.func305, by kernel_rfl⟩
theorem fn306_ok : Tryz.prog.funcs[306]? = some Tryz.f306 ∧ (Tryz.f306.name == "runtime.NumGoroutine") = false := ⟨Tryz.func306, by kernel_rfl⟩
theorem fn307_ok : Tryz.prog.funcs[307]? = some Tryz.f307 ∧ (Tryz.f307.name == "runtime.NumGoroutine") = false := ⟨Tryz.func307, by kernel_rfl⟩
theorem fn308_ok : Tryz.prog.funcs[308]? = some Tryz.f308 ∧ (Tryz.f308.name == "runtime.NumGoroutine") = false := ⟨Tryz.func308, by kernel_rfl⟩
theorem fn309_ok : Tryz.prog.funcs[309]? = some Tryz.f309 ∧ (Tryz.f309.name == "runtime.NumGoroutine") = false := ⟨Tryz.func309, by kernel_rfl⟩
theorem fn310_ok : Tryz.prog.funcs[310]? = some Tryz.f310 ∧ (Tryz.f310.name == "runtime.NumGoroutine") = false := ⟨Tryz.func310, by kernel_rfl⟩
theorem fn311_ok : Tryz.prog.funcs[311]? = some Tryz.f311 ∧ (Tryz.f311.name == "runtime.NumGoroutine") = false := ⟨Tryz.func311, by kernel_rfl⟩
theorem fn312_ok : Tryz.prog.funcs[312]? = some Tryz.f312 ∧ (Tryz.f312.name == "runtime.NumGoroutine") = false := ⟨Tryz.func312, by kernel_rfl⟩
theorem fn313_ok : Tryz.prog.funcs[313]? = some Tryz.f313 ∧ (Tryz.f313.name == "runtime.NumGoroutine") = false := ⟨Tryz.func313, by kernel_rfl⟩
theorem fn314_ok : Tryz.prog.funcs[314]? = some Tryz.f314 ∧ (Tryz.f314.name == "runtime.NumGoroutine") = false := ⟨Tryz.func314, by kernel_rfl⟩
theorem fn315_ok : Tryz.prog.funcs[315]? = some Tryz.f315 ∧ (Tryz.f315.name == "runtime.NumGoroutine") = false := ⟨Tryz.func315, by kernel_rfl⟩
theorem fn316_ok : Tryz.prog.funcs[316]? = some Tryz.f316 ∧ (Tryz.f316.name == "runtime.NumGoroutine") = false := ⟨Tryz.func316, by kernel_rfl⟩
theorem fn317_ok : Tryz.prog.funcs[317]? = some Tryz.f317 ∧ (Tryz.f317.name == "runtime.NumGoroutine") = false := ⟨Tryz.func317, by kernel_rfl⟩
theorem fn318_ok : Tryz.prog.funcs[318]? = some Tryz.f318 ∧ (Tryz.f318.name == "runtime.NumGoroutine") = false := ⟨Tryz.func318, by kernel_rfl⟩
theorem fn319_ok : Tryz.prog.funcs[319]? = some Tryz.f319 ∧ (Tryz.f319.name == "runtime.NumGoroutine") = false := ⟨Tryz.func319, by kernel_rfl⟩
theorem fn320_ok : Tryz.prog.funcs[320]? = some Tryz.f320 ∧ (Tryz.f320.name == "runtime.NumGoroutine") = false := ⟨Tryz.func320, by kernel_rfl⟩
theorem fn321_ok : Tryz.prog.funcs[321]? = some Tryz.f321 ∧ (Tryz.f321.name == "runtime.NumGoroutine") = false := ⟨Tryz.func321, by kernel_rfl⟩
theorem fn322_ok : Tryz.prog.funcs[322]? = some Tryz.f322 ∧ (Tryz.f322.name == "runtime.NumGoroutine") = false := ⟨Tryz.func322, by kernel_rfl⟩
theorem fn323_ok : Tryz.prog.funcs[323]? = some Tryz.f323 ∧ (Tryz.f323.name == "runtime.NumGoroutine") = false := ⟨Tryz.func323, by kernel_rfl⟩
theorem fn324_ok : Tryz.prog.funcs[324]? = some Tryz.f324 ∧ (Tryz.f324.name == "runtime.NumGoroutine") = false := ⟨Tryz.func324, by kernel_rfl⟩
theorem fn325_ok : Tryz.prog.funcs[325]? = some Tryz.f325 ∧ (Tryz.f325.name == "runtime.NumGoroutine") = false := ⟨Tryz.func325, by kernel_rfl⟩
theorem fn326_ok : Tryz.prog.funcs[326]? = some Tryz.f326 ∧ (Tryz.f326.name == "runtime.NumGoroutine") = false := ⟨Tryz.func326, by kernel_rfl⟩
theorem fn327_ok : Tryz.prog.funcs[327]? = some Tryz.f327 ∧ (Tryz.f327.name == "runtime.NumGoroutine") = false := ⟨Tryz.func327, by kernel_rfl⟩
theorem fn328_ok : Tryz.prog.funcs[328]? = some Tryz.f328 ∧ (Tryz.f328.name == "runtime.NumGoroutine") = false := ⟨Tryz.func328, by kernel_rfl⟩
theorem fn329_ok : Tryz.prog.funcs[329]? = some Tryz.f329 ∧ (Tryz.f329.name == "runtime.NumGoroutine") = false := ⟨Tryz.func329, by kernel_rfl⟩
theorem fn330_ok : Tryz.prog.funcs[330]? = some Tryz.f330 ∧ (Tryz.f330.name == "runtime.NumGoroutine") = false := ⟨Tryz.func330, by kernel_rfl⟩
theorem fn331_ok : Tryz.prog.funcs[331]? = some Tryz.f331 ∧ (Tryz.f331.name == "runtime.NumGoroutine") = false := ⟨Tryz.func331, by kernel_rfl⟩
theorem fn332_ok : Tryz.prog.funcs[332]? = some Tryz.f332 ∧ (Tryz.f332.name == "runtime.NumGoroutine") = false := ⟨Tryz.func332, by kernel_rfl⟩
theorem fn333_ok : Tryz.prog.funcs[333]? = some Tryz.f333 ∧ (Tryz.f333.name == "runtime.NumGoroutine") = false := ⟨Tryz.func333, by kernel_rfl⟩
theorem fn334_ok : Tryz.prog.funcs[334]? = some Tryz.f334 ∧ (Tryz.f334.name == "runtime.NumGoroutine") = false := ⟨Tryz.func334, by kernel_rfl⟩
theorem fn335_ok : Tryz.prog.funcs[335]? = some Tryz.f335 ∧ (Tryz.f335.name == "runtime.NumGoroutine") = false := ⟨Tryz.func335, by kernel_rfl⟩
theorem fn336_ok : Tryz.prog.funcs[336]? = some Tryz.f336 ∧ (Tryz.f336.name == "runtime.NumGoroutine") = false := ⟨Tryz.func336, by kernel_rfl⟩
theorem fn337_ok : Tryz.prog.funcs[337]? = some Tryz.f337 ∧ (Tryz.f337.name == "runtime.NumGoroutine") = false := ⟨Tryz.func337, by kernel_rfl⟩
theorem fn338_ok : Tryz.prog.funcs[338]? = some Tryz.f338 ∧ (Tryz.f338.name == "runtime.NumGoroutine") = false := ⟨Tryz.func338, by kernel_rfl⟩
theorem fn339_ok : Tryz.prog.funcs[339]? = some Tryz.f339 ∧ (Tryz.f339.name == "runtime.NumGoroutine") = false := ⟨Tryz.func339, by kernel_rfl⟩
theorem fn340_ok : Tryz.prog.funcs[340]? = some Tryz.f340 ∧ (Tryz.f340.name == "runtime.NumGoroutine") = false := ⟨Tryz.func340, by kernel_rfl⟩
theorem fn341_ok : Tryz.prog.funcs[341]? = some Tryz.f341 ∧ (Tryz.f341.name == "runtime.NumGoroutine") = false := ⟨Tryz.func341, by kernel_rfl⟩
theorem fn342_ok : Tryz.prog.funcs[342]? = some Tryz.f342 ∧ (Tryz.f342.name == "runtime.NumGoroutine") = false := ⟨Tryz.func342, by kernel_rfl⟩
theorem fn343_ok : Tryz.prog.funcs[343]? = some Tryz.f343 ∧ (Tryz.f343.name == "runtime.NumGoroutine") = false := ⟨Tryz.func343, by kernel_rfl⟩
theorem fn344_ok : Tryz.prog.funcs[344]? = some Tryz.f344 ∧ (Tryz.f344.name == "runtime.NumGoroutine") = false := ⟨Tryz.func344, by kernel_rfl⟩
theorem fn345_ok : Tryz.prog.funcs[345]? = some Tryz.f345 ∧ (Tryz.f345.name == "runtime.NumGoroutine") = false := ⟨Tryz.func345, by kernel_rfl⟩
theorem fn346_ok : Tryz.prog.funcs[346]? = some Tryz.f346 ∧ (Tryz.f346.name == "runtime.NumGoroutine") = false := ⟨Tryz.func346, by kernel_rfl⟩
theorem fn347_ok : Tryz.prog.funcs[347]? = some Tryz.f347 ∧ (Tryz.f347.name == "runtime.NumGoroutine") = false := ⟨Tryz.func347, by kernel_rfl⟩
theorem fn348_ok : Tryz.prog.funcs[348]? = some Tryz.f348 ∧ (Tryz.f348.name == "runtime.NumGoroutine") = false := ⟨Tryz.func348, by kernel_rfl⟩
theorem fn349_ok : Tryz.prog.funcs[349]? = some Tryz.f349 ∧ (Tryz.f349.name == "runtime.NumGoroutine") = false := ⟨Tryz.func349, by kernel_rfl⟩
theorem fn350_ok : Tryz.prog.funcs[350]? = some Tryz.f350 ∧ (Tryz.f350.name == "runtime.NumGoroutine") = false := ⟨Tryz.func350, by kernel_rfl⟩
theorem fn351_ok : Tryz.prog.funcs[351]? = some Tryz.f351 ∧ (Tryz.f351.name == "runtime.NumGoroutine") = false := ⟨Tryz.func351, by kernel_rfl⟩
theorem fn352_ok : Tryz.prog.funcs[352]? = some Tryz.f352 ∧ (Tryz.f352.name == "runtime.NumGoroutine") = false := ⟨Tryz.func352, by kernel_rfl⟩
theorem fn353_ok : Tryz.prog.funcs[353]? = some Tryz.f353 ∧ (Tryz.f353.name == "runtime.NumGoroutine") = false := ⟨Tryz.func353, by kernel_rfl⟩
theorem fn354_ok : Tryz.prog.funcs[354]? = some Tryz.f354 ∧ (Tryz.f354.name == "runtime.NumGoroutine") = false := ⟨Tryz.func354, by kernel_rfl⟩
theorem fn355_ok : Tryz.prog.funcs[355]? = some Tryz.f355 ∧ (Tryz.f355.name == "runtime.NumGoroutine") = false := ⟨Tryz.func355, by kernel_rfl⟩
theorem fn356_ok : Tryz.prog.funcs[356]? = some Tryz.f356 ∧ (Tryz.f356.name == "runtime.NumGoroutine") = false := ⟨Tryz.func356, by kernel_rfl⟩
theorem fn357_ok : Tryz.prog.funcs[357]? = some Tryz.f357 ∧ (Tryz.f357.name == "runtime.NumGoroutine") = false := ⟨Tryz.func357, by kernel_rfl⟩
theorem fn358_ok : Tryz.prog.funcs[358]? = some Tryz.f358 ∧ (Tryz.f358.name == "runtime.NumGoroutine") = false := ⟨Tryz.func358, by kernel_rfl⟩
theorem fn359_ok : Tryz.prog.funcs[359]? = some Tryz.f359 ∧ (Tryz.f359.name == "runtime.NumGoroutine") = false := ⟨Tryz.func359, by kernel_rfl⟩
theorem fn360_ok : Tryz.prog.funcs[360]? = some Tryz.f360 ∧ (Tryz.f360.name == "runtime.NumGoroutine") = false := ⟨Tryz.func360, by kernel_rfl⟩
theorem fn361_ok : Tryz.prog.funcs[361]? = some Tryz.f361 ∧ (Tryz.f361.name == "runtime.NumGoroutine") = false := ⟨Tryz.func361, by kernel_rfl⟩
theorem fn362_ok : Tryz.prog.funcs[362]? = some Tryz.f362 ∧ (Tryz.f362.name == "runtime.NumGoroutine") = false := ⟨Tryz.func362, by kernel_rfl⟩
theorem fn363_ok : Tryz.prog.funcs[363]? = some Tryz.f363 ∧ (Tryz.f363.name == "runtime.NumGoroutine") = false := ⟨Tryz.func363, by kernel_rfl⟩
theorem fn365_ok : Tryz.prog.funcs[365]? = some Tryz.f365 ∧ (Tryz.f365.name == "runtime.NumGoroutine") = false := ⟨Tryz.func365, by kernel_rfl⟩
theorem fn366_ok : Tryz.prog.funcs[366]? = some Tryz.f366 ∧ (Tryz.f366.name == "runtime.NumGoroutine") = false := ⟨Tryz.func366, by kernel_rfl⟩
theorem fn368_ok : Tryz.prog.funcs[368]? = some Tryz.f368 ∧ (Tryz.f368.name == "runtime.NumGoroutine") = false := ⟨Tryz.func368, by kernel_rfl⟩
noncomputable def tf3 : Tr Func := .node 3 Tryz.f3 .leaf .leaf
theorem tf3_all : tf3.All (fun f F => Tryz.prog.funcs[f]? = some F ∧ (F.name == "runtime.NumGoroutine") = false) := ⟨fn3_ok, True.intro, True.intro⟩
noncomputable def tf4 : Tr Func := .node 4 Tryz.f4 tf3 .leaf
theorem tf4_all : tf4.All (fun f F => Tryz.prog.funcs[f]? = some F ∧ (F.name == "runtime.NumGoroutine") = false) := ⟨fn4_ok, tf3_all, True.intro⟩
noncomputable def tf6 : Tr Func := .node 6 Tryz.f6 .leaf .leaf
theorem tf6_all : tf6.All (fun f F => Tryz.prog.funcs[f]? = some F ∧ (F.name == "runtime.NumGoroutine") = false) := ⟨fn6_ok, True.intro, True.intro⟩
noncomputable def tf7 : Tr Func := .node 7 Tryz.f7 tf6 .leaf
theorem tf7_all : tf7.All (fun f F => Tryz.prog.funcs[f]? = some F ∧ (F.name == "runtime.NumGoroutine") = false) := ⟨fn7_ok, tf6_all, True.intro⟩
noncomputable def tf5 : Tr Func := .node 5 Tryz.f5 tf4 tf7
theorem tf5_all : tf5.All (fun f F => Tryz.prog.funcs[f]? = some F ∧ (F.name == "runtime.NumGoroutine") = false) := ⟨fn5_ok, tf4_all, tf7_all⟩
noncomputable def tf9 : Tr Func := .node 9 Tryz.f9 .leaf .leaf
theorem tf9_all : tf9.All (fun f F => Tryz.prog.funcs[f]? = some F ∧ (F.name == "runtime.NumGoroutine") = false) := ⟨fn9_ok, True.intro, True.intro⟩
noncomputable def tf10 : Tr Func := .node 10 Tryz.f10 tf9 .leaf
theorem tf10_all : tf10.All (fun f F => Tryz.prog.funcs[f]? = some F ∧ (F.name == "runtime.NumGoroutine") = false) := ⟨fn10_ok, tf9_all, True.intro⟩
noncomputable def tf12 : Tr Func := .node 12 Tryz.f12 .leaf .leaf
theorem tf12_all : tf12.All (fun f F => Tryz.prog.funcs[f]? = some F ∧ (F.name == "runtime.NumGoroutine") = false) := ⟨fn12_ok, True.intro, True.intro⟩
noncomputable def tf13 : Tr Func := .node 13 Tryz.f13 tf12 .leaf
theorem tf13_all : tf13.All (fun f F => Tryz.prog.funcs[f]? = some F ∧ (F.name == "runtime.NumGoroutine") = false) := ⟨fn13_ok, tf12_all, True.intro⟩
noncomputable def tf11 : Tr Func := .node 11 Tryz.f11 tf10 tf13
theorem tf11_all : tf11.All (fun f F => Tryz.prog.funcs[f]? = some F ∧ (F.name == "runtime.NumGoroutine") = false) := ⟨fn11_ok, tf10_all, tf13_all⟩
noncomputable def tf8 : Tr Func := .node 8 Tryz.f8 tf5 tf11
theorem tf8_all : tf8.All (fun f F => Tryz.prog.funcs[f]? = some F ∧ (F.name == "runtime.NumGoroutine") = false) := ⟨fn8_ok, tf5_all, tf11_all⟩
noncomputable def tf15 : Tr Func := .node 15 Tryz.f15 .leaf .leaf
theorem tf15_all : tf15.All (fun f F => Tryz.prog.funcs[f]? = some F ∧ (F.name == "runtime.NumGoroutine") = false) := ⟨fn15_ok, True.intro, True.intro⟩
noncomputable def tf16 : Tr Func := .node 16 Tryz.f16 tf15 .leaf
theorem tf16_all : tf16.All (fun f F => Tryz.prog.funcs[f]? = some F ∧ (F.name == "runtime.NumGoroutine") = false) := ⟨fn16_ok, tf15_all, True.intro⟩
noncomputable def tf18 : Tr Func := .node 18 Tryz.f18 .leaf .leaf
theorem tf18_all : tf18.All (fun f F => Tryz.prog.funcs[f]? = some F ∧ (F.name == "runtime.NumGoroutine") = false) := ⟨fn18_ok, True.intro, True.intro⟩
noncomputable def tf19 : Tr Func := .node 19 Tryz.f19 tf18 .leaf
theorem tf19_all : tf19.All (fun f F => Tryz.prog.funcs[f]? = some F ∧ (F.name == "runtime.NumGoroutine") = false) := ⟨fn19_ok, tf18_all, True.intro⟩
noncomputable def tf17 : Tr Func := .node 17 Tryz.f17 tf16 tf19
theorem tf17_all : tf17.All (fun f F => Tryz.prog.funcs[f]? = some F ∧ (F.name == "runtime.NumGoroutine") = false) := ⟨fn17_ok, tf16_all, tf19_all⟩
noncomputable def tf21 : Tr Func := .node 21 Tryz.f21 .leaf .leaf
theorem tf21_all : tf21.All (fun f F => Tryz.prog.funcs[f]? = some F ∧ (F.name == "runtime.NumGoroutine") = false) := ⟨fn21_ok, True.intro, True.intro⟩
noncomputable def tf22 : Tr Func := .node 22 Tryz.f22 tf21 .leaf
theorem tf22_all : tf22.All (fun f F => Tryz.prog.funcs[f]? = some F ∧ (F.name == "runtime.NumGoroutine") = false) := ⟨fn22_ok, tf21_all, True.intro⟩
noncomputable def tf24 : Tr Func := .node 24 Tryz.f24 .leaf .leaf
theorem tf24_all : tf24.All (fun f F => Tryz.prog.funcs[f]? = some F ∧ (F.name == "runtime.NumGoroutine") = false) := ⟨fn24_ok, True.intro, True.intro⟩
noncomputable def tf23 : Tr Func := .node 23 Tryz.f23 tf22 tf24
theorem tf23_all : tf23.All (fun f F => Tryz.prog.funcs[f]? = some F ∧ (F.name == "runtime.NumGoroutine") = false) := ⟨fn23_ok, tf22_all, tf24_all⟩
noncomputable def tf20 : Tr Func := .node 20 Tryz.f20 tf17 tf23
theorem tf20_all : tf20.All (fun f F => Tryz.prog.funcs[f]? = some F ∧ (F.name == "runtime.NumGoroutine") = false) := ⟨fn20_ok, tf17_all, tf23_all⟩
noncomputable def tf14 : Tr Func := .node 14 Tryz.f14 tf8 tf20
theorem tf14_all : tf14.All (fun f F => Tryz.prog.funcs[f]? = some F ∧ (F.name == "runtime.NumGoroutine") = false) := ⟨fn14_ok, tf8_all, tf20_all⟩
noncomputable def tf26 : Tr Func := .node 26 Tryz.f26 .leaf .leaf
theorem tf26_all : tf26.All (fun f F => Tryz.prog.funcs[f]? = some F ∧ (F.name == "runtime.NumGoroutine") = false) := ⟨fn26_ok, True.intro, True.intro⟩
noncomputable def tf27 : Tr Func := .node 27 Tryz.f27 tf26 .leaf
theorem tf27_all : tf27.All (fun f F => Tryz.prog.funcs[f]? = some F ∧ (F.name == "runtime.NumGoroutine") = false) := ⟨fn27_ok, tf26_all, True.intro⟩
noncomputable def tf29 : Tr Func := .node 29 Tryz.f29 .leaf .leaf
theorem tf29_all : tf29.All (fun f F => Tryz.prog.funcs[f]? = some F ∧ (F.name == "runtime.NumGoroutine") = false) := ⟨fn29_ok, True.intro, True.intro⟩
noncomputable def tf30 : Tr Func := .node 30 Tryz.f30 tf29 .leaf
theorem tf30_all : tf30.All (fun f F => Tryz.prog.funcs[f]? = some F ∧ (F.name == "runtime.NumGoroutine") = false) := ⟨fn30_ok, tf29_all, True.intro⟩
noncomputable def tf28 : Tr Func := .node 28 Tryz.f28 tf27 tf30
theorem tf28_all : tf28.All (fun f F => Tryz.prog.funcs[f]? = some F ∧ (F.name == "runtime.NumGoroutine") = false) := ⟨fn28_ok, tf27_all, tf30_all⟩
noncomputable def tf32 : Tr Func := .node 32 Tryz.f32 .leaf .leaf
theorem tf32_all : tf32.All (fun f F => Tryz.prog.funcs[f]? = some F ∧ (F.name == "runtime.NumGoroutine") = false) := ⟨fn32_ok, True.intro, True.intro⟩
noncomputable def tf33 : Tr Func := .node 33 Tryz.f33 tf32 .leaf
theorem tf33_all : tf33.All (fun f F => Tryz.prog.funcs[f]? = some F ∧ (F.name == "runtime.NumGoroutine") = false) := ⟨fn33_ok, tf32_all, True.intro⟩
noncomputable def tf35 : Tr Func := .node 35 Tryz.f35 .leaf .leaf
theorem tf35_all : tf35.All (fun f F => Tryz.prog.funcs[f]? = some F ∧ (F.name == "runtime.NumGoroutine") = false) := ⟨fn35_ok, True.intro, True.intro⟩
noncomputable def tf36 : Tr Func := .node 36 Tryz.f36 tf35 .leaf
theorem tf36_all : tf36.All (fun f F => Tryz.prog.funcs[f]? = some F ∧ (F.name == "runtime.NumGoroutine") = false) := ⟨fn36_ok, tf35_all, True.intro⟩
noncomputable def tf34 : Tr Func := .node 34 Tryz.f34 tf33 tf36
theorem tf34_all : tf34.All (fun f F => Tryz.prog.funcs[f]? = some F ∧ (F.name == "runtime.NumGoroutine") = false) := ⟨fn34_ok, tf33_all, tf36_all⟩
noncomputable def tf31 : Tr Func := .node 31 Tryz.f31 tf28 tf34
theorem tf31_all : tf31.All (fun f F => Tryz.prog.funcs[f]? = some F ∧ (F.name == "runtime.NumGoroutine") = false) := ⟨fn31_ok, tf28_all, tf34_all⟩
noncomputable def tf38 : Tr Func := .node 38 Tryz.f38 .leaf .leaf
theorem tf38_all : tf38.All (fun f F => Tryz.prog.funcs[f]? = some F ∧ (F.name == "runtime.NumGoroutine") = false) := ⟨fn38_ok, True.intro, True.intro⟩
noncomputable def tf39 : Tr Func := .node 39 Tryz.f39 tf38 .leaf
theorem tf39_all : tf39.All (fun f F => Tryz.prog.funcs[f]? = some F ∧ (F.name == "runtime.NumGoroutine") = false) := ⟨fn39_ok, tf38_all, True.intro⟩
noncomputable def tf41 : Tr Func := .node 41 Tryz.f41 .leaf .leaf
theorem tf41_all : tf41.All (fun f F => Tryz.prog.funcs[f]? = some F ∧ (F.name == "runtime.NumGoroutine") = false) := ⟨fn41_ok, True.intro, True.intro⟩
noncomputable def tf42 : Tr Func := .node 42 Tryz.f42 tf41 .leaf
theorem tf42_all : tf42.All (fun f F => Tryz.prog.funcs[f]? = some F ∧ (F.name == "runtime.NumGoroutine") = false) := ⟨fn42_ok, tf41_all, True.intro⟩
noncomputable def tf40 : Tr Func := .node 40 Tryz.f40 tf39 tf42
theorem tf40_all : tf40.All (fun f F => Tryz.prog.funcs[f]? = some F ∧ (F.name == "runtime.NumGoroutine") = false) := ⟨fn40_ok, tf39_all, tf42_all⟩
noncomputable def tf44 : Tr Func := .node 44 Tryz.f44 .leaf .leaf
theorem tf44_all : tf44.All (fun f F => Tryz.prog.funcs[f]? = some F ∧ (F.name == "runtime.NumGoroutine") = false) := ⟨fn44_ok, True.intro, True.intro⟩
noncomputable def tf45 : Tr Func := .node 45 Tryz.f45 tf44 .leaf
theorem tf45_all : tf45.All (fun f F => Tryz.prog.funcs[f]? = some F ∧ (F.name == "runtime.NumGoroutine") = false) := ⟨fn45_ok, tf44_all, True.intro⟩
noncomputable def tf47 : Tr Func := .node 47 Tryz.f47 .leaf .leaf
theorem tf47_all : tf47.All (fun f F => Tryz.prog.funcs[f]? = some F ∧ (F.name == "runtime.NumGoroutine") = false) := ⟨fn47_ok, True.intro, True.intro⟩
noncomputable def tf46 : Tr Func := .node 46 Tryz.f46 tf45 tf47
theorem tf46_all : tf46.All (fun f F => Tryz.prog.funcs[f]? = some F ∧ (F.name == "runtime.NumGoroutine") = false) := ⟨fn46_ok, tf45_all, tf47_all⟩
noncomputable def tf43 : Tr Func := .node 43 Tryz.f43 tf40 tf46
theorem tf43_all : tf43.All (fun f F => Tryz.prog.funcs[f]? = some F ∧ (F.name == "runtime.NumGoroutine") = false) := ⟨fn43_ok, tf40_all, tf46_all⟩
noncomputable def tf37 : Tr Func := .node 37 Tryz.f37 tf31 tf43
theorem tf37_all : tf37.All (fun f F => Tryz.prog.funcs[f]? = some F ∧ (F.name == "runtime.NumGoroutine") = false) := ⟨fn37_ok, tf31_all, tf43_all⟩
noncomputable def tf25 : Tr Func := .node 25 Tryz.f25 tf14 tf37
theorem tf25_all : tf25.All (fun f F => Tryz.prog.funcs[f]? = some F ∧ (F.name == "runtime.NumGoroutine") = false) := ⟨fn25_ok, tf14_all, tf37_all⟩
noncomputable def tf49 : Tr Func := .node 49 Tryz.f49 .leaf .leaf
theorem tf49_all : tf49.All (fun f F => Tryz.prog.funcs[f]? = some F ∧ (F.name == "runtime.NumGoroutine") = false) := ⟨fn49_ok, True.intro, True.intro⟩
noncomputable def tf50 : Tr Func := .node 50 Tryz.f50 tf49 .leaf
theorem tf50_all : tf50.All (fun f F => Tryz.prog.funcs[f]? = some F ∧ (F.name == "runtime.NumGoroutine") = false) := ⟨fn50_ok, tf49_all, True.intro⟩
noncomputable def tf52 : Tr Func := .node 52 Tryz.f52 .leaf .leaf
theorem tf52_all : tf52.All (fun f F => Tryz.prog.funcs[f]? = some F ∧ (F.name == "runtime.NumGoroutine") = false) := ⟨fn52_ok, True.intro, True.intro⟩
noncomputable def tf53 : Tr Func := .node 53 Tryz.f53 tf52 .leaf
theorem tf53_all : tf53.All (fun f F => Tryz.prog.funcs[f]? = some F ∧ (F.name == "runtime.NumGoroutine") = false) := ⟨fn53_ok, tf52_all, True.intro⟩
noncomputable def tf51 : Tr Func := .node 51 Tryz.f51 tf50 tf53
theorem tf51_all : tf51.All (fun f F => Tryz.prog.funcs[f]? = some F ∧ (F.name == "runtime.NumGoroutine") = false) := ⟨fn51_ok, tf50_all, tf53_all⟩
noncomputable def tf55 : Tr Func := .node 55 Tryz.f55 .leaf .leaf
theorem tf55_all : tf55.All (fun f F => Tryz.prog.funcs[f]? = some F ∧ (F.name == "runtime.NumGoroutine") = false) := ⟨fn55_ok, True.intro, True.intro⟩
noncomputable def tf56 : Tr Func := .node 56 Tryz.f56 tf55 .leaf
theorem tf56_all : tf56.All (fun f F => Tryz.prog.funcs[f]? = some F ∧ (F.name == "runtime.NumGoroutine") = false) := ⟨fn56_ok, tf55_all, True.intro⟩
noncomputable def tf58 : Tr Func := .node 58 Tryz.f58 .leaf .leaf
theorem tf58_all : tf58.All (fun f F => Tryz.prog.funcs[f]? = some F ∧ (F.name == "runtime.NumGoroutine") = false) := ⟨fn58_ok, True.intro, True.intro⟩
noncomputable def tf59 : Tr Func := .node 59 Tryz.f59 tf58 .leaf
theorem tf59_all : tf59.All (fun f F => Tryz.prog.funcs[f]? = some F ∧ (F.name == "runtime.NumGoroutine") = false) := ⟨fn59_ok, tf58_all, True.intro⟩
noncomputable def tf57 : Tr Func := .node 57 Tryz.f57 tf56 tf59
theorem tf57_all : tf57.All (fun f F => Tryz.prog.funcs[f]? = some F ∧ (F.name == "runtime.NumGoroutine") = false) := ⟨fn57_ok, tf56_all, tf59_all⟩
noncomputable def tf54 : Tr Func := .node 54 Tryz.f54 tf51 tf57
theorem tf54_all : tf54.All (fun f F => Tryz.prog.funcs[f]? = some F ∧ (F.name == "runtime.NumGoroutine") = false) := ⟨fn54_ok, tf51_all, tf57_all⟩
noncomputable def tf61 : Tr Func := .node 61 Tryz.f61 .leaf .leaf
theorem tf61_all : tf61.All (fun f F => Tryz.prog.funcs[f]? = some F ∧ (F.name == "runtime.NumGoroutine") = false) := ⟨fn61_ok, True.intro, True.intro⟩
noncomputable def tf62 : Tr Func := .node 62 Tryz.f62 tf61 .leaf
theorem tf62_all : tf62.All (fun f F => Tryz.prog.funcs[f]? = some F ∧ (F.name == "runtime.NumGoroutine") = false) := ⟨fn62_ok, tf61_all, True.intro⟩
noncomputable def tf64 : Tr Func := .node 64 Tryz.f64 .leaf .leaf
theorem tf64_all : tf64.All (fun f F => Tryz.prog.funcs[f]? = some F ∧ (F.name == "runtime.NumGoroutine") = false) := ⟨fn64_ok, True.intro, True.intro⟩
noncomputable def tf65 : Tr Func := .node 65 Tryz.f65 tf64 .leaf
theorem tf65_all : tf65.All (fun f F => Tryz.prog.funcs[f]? = some F ∧ (F.name == "runtime.NumGoroutine") = false) := ⟨fn65_ok, tf64_all, True.intro⟩
noncomputable def tf63 : Tr Func := .node 63 Tryz.f63 tf62 tf65
theorem tf63_all : tf63.All (fun f F => Tryz.prog.funcs[f]? = some F ∧ (F.name == "runtime.NumGoroutine") = false) := ⟨fn63_ok, tf62_all, tf65_all⟩
noncomputable def tf67 : Tr Func := .node 67 Tryz.f67 .leaf .leaf
theorem tf67_all : tf67.All (fun f F => Tryz.prog.funcs[f]? = some F ∧ (F.name == "runtime.NumGoroutine") = false) := ⟨fn67_ok, True.intro, True.intro⟩
noncomputable def tf68 : Tr Func := .node 68 Tryz.f68 tf67 .leaf
theorem tf68_all : tf68.All (fun f F => Tryz.prog.funcs[f]? = some F ∧ (F.name == "runtime.NumGoroutine") = false) := ⟨fn68_ok, tf67_all, True.intro⟩
noncomputable def tf70 : Tr Func := .node 70 Tryz.f70 .leaf .leaf
theorem tf70_all : tf70.All (fun f F => Tryz.prog.funcs[f]? = some F ∧ (F.name == "runtime.NumGoroutine") = false) := ⟨fn70_ok, True.intro, True.intro⟩
noncomputable def tf69 : Tr Func := .node 69 Tryz.f69 tf68 tf70
theorem tf69_all : tf69.All (fun f F => Tryz.prog.funcs[f]? = some F ∧ (F.name == "runtime.NumGoroutine") = false) := ⟨fn69_ok, tf68_all, tf70_all⟩
noncomputable def tf66 : Tr Func := .node 66 Tryz.f66 tf63 tf69
theorem tf66_all : tf66.All (fun f F => Tryz.prog.funcs[f]? = some F ∧ (F.name == "runtime.NumGoroutine") = false) := ⟨fn66_ok, tf63_all, tf69_all⟩
noncomputable def tf60 : Tr Func := .node 60 Tryz.f60 tf54 tf66
theorem tf60_all : tf60.All (fun f F => Tryz.prog.funcs[f]? = some F ∧ (F.name == "runtime.NumGoroutine") = false) := ⟨fn60_ok, tf54_all, tf66_all⟩
noncomputable def tf72 : Tr Func := .node 72 Tryz.f72 .leaf .leaf
theorem tf72_all : tf72.All (fun f F => Tryz.prog.funcs[f]? = some F ∧ (F.name == "runtime.NumGoroutine") = false) := ⟨fn72_ok, True.intro, True.intro⟩
noncomputable def tf73 : Tr Func := .node 73 Tryz.f73 tf72 .leaf
theorem tf73_all : tf73.All (fun f F => Tryz.prog.funcs[f]? = some F ∧ (F.name == "runtime.NumGoroutine") = false) := ⟨fn73_ok, tf72_all, True.intro⟩
noncomputable def tf75 : Tr Func := .node 75 Tryz.f75 .leaf .leaf
theorem tf75_all : tf75.All (fun f F => Tryz.prog.funcs[f]? = some F ∧ (F.name == "runtime.NumGoroutine") = false) := ⟨fn75_ok, True.intro, True.intro⟩
noncomputable def tf76 : Tr Func := .node 76 Tryz.f76 tf75 .leaf
theorem tf76_all : tf76.All (fun f F => Tryz.prog.funcs[f]? = some F ∧ (F.name == "runtime.NumGoroutine") = false) := ⟨fn76_ok, tf75_all, True.intro⟩
noncomputable def tf74 : Tr Func := .node 74 Tryz.f74 tf73 tf76
theorem tf74_all : tf74.All (fun f F => Tryz.prog.funcs[f]? = some F ∧ (F.name == "runtime.NumGoroutine") = false) := ⟨fn74_ok, tf73_all, tf76_all⟩
noncomputable def tf78 : Tr Func := .node 78 Tryz.f78 .leaf .leaf
theorem tf78_all : tf78.All (fun f F => Tryz.prog.funcs[f]? = some F ∧ (F.name == "runtime.NumGoroutine") = false) := ⟨fn78_ok, True.intro, True.intro⟩
noncomputable def tf79 : Tr Func := .node 79 Tryz.f79 tf78 .leaf
theorem tf79_all : tf79.All (fun f F => Tryz.prog.funcs[f]? = some F ∧ (F.name == "runtime.NumGoroutine") = false) := ⟨fn79_ok, tf78_all, True.intro⟩
noncomputable def tf81 : Tr Func := .node 81 Tryz.f81 .leaf .leaf
theorem tf81_all : tf81.All (fun f F => Tryz.prog.funcs[f]? = some F ∧ (F.name == "runtime.NumGoroutine") = false) := ⟨fn81_ok, True.intro, True.intro⟩
noncomputable def tf82 : Tr Func := .node 82 Tryz.f82 tf81 .leaf
theorem tf82_all : tf82.All (fun f F => Tryz.prog.funcs[f]? = some F ∧ (F.name == "runtime.NumGoroutine") = false) := ⟨fn82_ok, tf81_all, True.intro⟩
noncomputable def tf80 : Tr Func := .node 80 Tryz.f80 tf79 tf82
theorem tf80_all : tf80.All (fun f F => Tryz.prog.funcs[f]? = some F ∧ (F.name == "runtime.NumGoroutine") = false) := ⟨fn80_ok, tf79_all, tf82_all⟩
noncomputable def tf77 : Tr Func := .node 77 Tryz.f77 tf74 tf80
theorem tf77_all : tf77.All (fun f F => Tryz.prog.funcs[f]? = some F ∧ (F.name == "runtime.NumGoroutine") = false) := ⟨fn77_ok, tf74_all, tf80_all⟩
noncomputable def tf84 : Tr Func := .node 84 Tryz.f84 .leaf .leaf
theorem tf84_all : tf84.All (fun f F => Tryz.prog.funcs[f]? = some F ∧ (F.name == "runtime.NumGoroutine") = false) := ⟨fn84_ok, True.intro, True.intro⟩
noncomputable def tf85 : Tr Func := .node 85 Tryz.f85 tf84 .leaf
theorem tf85_all : tf85.All (fun f F => Tryz.prog.funcs[f]? = some F ∧ (F.name == "runtime.NumGoroutine") = false) := ⟨fn85_ok, tf84_all, True.intro⟩
noncomputable def tf87 : Tr Func := .node 87 Tryz.f87 .leaf .leaf
theorem tf87_all : tf87.All (fun f F => Tryz.prog.funcs[f]? = some F ∧ (F.name == "runtime.NumGoroutine") = false) := ⟨fn87_ok, True.intro, True.intro⟩
noncomputable def tf88 : Tr Func := .node 88 Tryz.f88 tf87 .leaf
theorem tf88_all : tf88.All (fun f F => Tryz.prog.funcs[f]? = some F ∧ (F.name == "runtime.NumGoroutine") = false) := ⟨fn88_ok, tf87_all, True.intro⟩
noncomputable def tf86 : Tr Func := .node 86 Tryz.f86 tf85 tf88
theorem tf86_all : tf86.All (fun f F => Tryz.prog.funcs[f]? = some F ∧ (F.name == "runtime.NumGoroutine") = false) := ⟨fn86_ok, tf85_all, tf88_all⟩
noncomputable def tf90 : Tr Func := .node 90 Tryz.f90 .leaf .leaf
theorem tf90_all : tf90.All (fun f F => Tryz.prog.funcs[f]? = some F ∧ (F.name == "runtime.NumGoroutine") = false) := ⟨fn90_ok, True.intro, True.intro⟩
noncomputable def tf91 : Tr Func := .node 91 Tryz.f91 tf90 .leaf
theorem tf91_all : tf91.All (fun f F => Tryz.prog.funcs[f]? = some F ∧ (F.name == "runtime.NumGoroutine") = false) := ⟨fn91_ok, tf90_all, True.intro⟩
noncomputable def tf93 : Tr Func := .node 93 Tryz.f93 .leaf .leaf
theorem tf93_all : tf93.All (fun f F => Tryz.prog.funcs[f]? = some F ∧ (F.name == "runtime.NumGoroutine") = false) := ⟨fn93_ok, True.intro, True.intro⟩
noncomputable def tf92 : Tr Func := .node 92 Tryz.f92 tf91 tf93
theorem tf92_all : tf92.All (fun f F => Tryz.prog.funcs[f]? = some F ∧ (F.name == "runtime.NumGoroutine") = false) := ⟨fn92_ok, tf91_all, tf93_all⟩
noncomputable def tf89 : Tr Func := .node 89 Tryz.f89 tf86 tf92
theorem tf89_all : tf89.All (fun f F => Tryz.prog.funcs[f]? = some F ∧ (F.name == "runtime.NumGoroutine") = false) := ⟨fn89_ok, tf86_all, tf92_all⟩
noncomputable def tf83 : Tr Func := .node 83 Tryz.f83 tf77 tf89
theorem tf83_all : tf83.All (fun f F => Tryz.prog.funcs[f]? = some F ∧ (F.name == "runtime.NumGoroutine") = false) := ⟨fn83_ok, tf77_all, tf89_all⟩
noncomputable def tf71 : Tr Func := .node 71 Tryz.f71 tf60 tf83
theorem tf71_all : tf71.All (fun f F => Tryz.prog.funcs[f]? = some F ∧ (F.name == "runtime.NumGoroutine") = false) := ⟨fn71_ok, tf60_all, tf83_all⟩
noncomputable def tf48 : Tr Func := .node 48 Tryz.f48 tf25 tf71
theorem tf48_all : tf48.All (fun f F => Tryz.prog.funcs[f]? = some F ∧ (F.name == "runtime.NumGoroutine") = false) := ⟨fn48_ok, tf25_all, tf71_all⟩
noncomputable def tf95 : Tr Func := .node 95 Tryz.f95 .leaf .leaf
theorem tf95_all : tf95.All (fun f F => Tryz.prog.funcs[f]? = some F ∧ (F.name == "runtime.NumGoroutine") = false) := ⟨fn95_ok, True.intro, True.intro⟩
noncomputable def tf96 : Tr Func := .node 96 Tryz.f96 tf95 .leaf
theorem tf96_all : tf96.All (fun f F => Tryz.prog.funcs[f]? = some F ∧ (F.name == "runtime.NumGoroutine") = false) := ⟨fn96_ok, tf95_all, True.intro⟩
noncomputable def tf98 : Tr Func := .node 98 Tryz.f98 .leaf .leaf
theorem tf98_all : tf98.All (fun f F => Tryz.prog.funcs[f]? = some F ∧ (F.name == "runtime.NumGoroutine") = false) := ⟨fn98_ok, True.intro, True.intro⟩
noncomputable def tf99 : Tr Func := .node 99 Tryz.f99 tf98 .leaf
theorem tf99_all : tf99.All (fun f F => Tryz.prog.funcs[f]? = some F ∧ (F.name == "runtime.NumGoroutine") = false) := ⟨fn99_ok, tf98_all, True.intro⟩
noncomputable def tf97 : Tr Func := .node 97 Tryz.f97 tf96 tf99
theorem tf97_all : tf97.All (fun f F => Tryz.prog.funcs[f]? = some F ∧ (F.name == "runtime.NumGoroutine") = false) := ⟨fn97_ok, tf96_all, tf99_all⟩
noncomputable def tf101 : Tr Func := .node 101 Tryz.f101 .leaf .leaf
theorem tf101_all : tf101.All (fun f F => Tryz.prog.funcs[f]? = some F ∧ (F.name == "runtime.NumGoroutine") = false) := ⟨fn101_ok, True.intro, True.intro⟩
noncomputable def tf102 : Tr Func := .node 102 Tryz.f102 tf101 .leaf
theorem tf102_all : tf102.All (fun f F => Tryz.prog.funcs[f]? = some F ∧ (F.name == "runtime.NumGoroutine") = false) := ⟨fn102_ok, tf101_all, True.intro⟩
noncomputable def tf104 : Tr Func := .node 104 Tryz.f104 .leaf .leaf
theorem tf104_all : tf104.All (fun f F => Tryz.prog.funcs[f]? = some F ∧ (F.name == "runtime.NumGoroutine") = false) := ⟨fn104_ok, True.intro, True.intro⟩
noncomputable def tf105 : Tr Func := .node 105 Tryz.f105 tf104 .leaf
theorem tf105_all : tf105.All (fun f F => Tryz.prog.funcs[f]? = some F ∧ (F.name == "runtime.NumGoroutine") = false) := ⟨fn105_ok, tf104_all, True.intro⟩
noncomputable def tf103 : Tr Func := .node 103 Tryz.f103 tf102 tf105
theorem tf103_all : tf103.All (fun f F => Tryz.prog.funcs[f]? = some F ∧ (F.name == "runtime.NumGoroutine") = false) := ⟨fn103_ok, tf102_all, tf105_all⟩
noncomputable def tf100 : Tr Func := .node 100 Tryz.f100 tf97 tf103
theorem tf100_all : tf100.All (fun f F => Tryz.prog.funcs[f]? = some F ∧ (F.name == "runtime.NumGoroutine") = false) := ⟨fn100_ok, tf97_all, tf103_all⟩
noncomputable def tf107 : Tr Func := .node 107 Tryz.f107 .leaf .leaf
theorem tf107_all : tf107.All (fun f F => Tryz.prog.funcs[f]? = some F ∧ (F.name == "runtime.NumGoroutine") = false) := ⟨fn107_ok, True.intro, True.intro⟩
noncomputable def tf108 : Tr Func := .node 108 Tryz.f108 tf107 .leaf
theorem tf108_all : tf108.All (fun f F => Tryz.prog.funcs[f]? = some F ∧ (F.name == "runtime.NumGoroutine") = false) := ⟨fn108_ok, tf107_all, True.intro⟩
noncomputable def tf110 : Tr Func := .node 110 Tryz.f110 .leaf .leaf
theorem tf110_all : tf110.All (fun f F => Tryz.prog.funcs[f]? = some F ∧ (F.name == "runtime.NumGoroutine") = false) := ⟨fn110_ok, True.intro, True.intro⟩
noncomputable def tf111 : Tr Func := .node 111 Tryz.f111 tf110 .leaf
theorem tf111_all : tf111.All (fun f F => Tryz.prog.funcs[f]? = some F ∧ (F.name == "runtime.NumGoroutine") = false) := ⟨fn111_ok, tf110_all, True.intro⟩
noncomputable def tf109 : Tr Func := .node 109 Tryz.f109 tf108 tf111
theorem tf109_all : tf109.All (fun f F => Tryz.prog.funcs[f]? = some F ∧ (F.name == "runtime.NumGoroutine") = false) := ⟨fn109_ok, tf108_all, tf111_all⟩
noncomputable def tf113 : Tr Func := .node 113 Tryz.f113 .leaf .leaf
theorem tf113_all : tf113.All (fun f F => Tryz.prog.funcs[f]? = some F ∧ (F.name == "runtime.NumGoroutine") = false) := ⟨fn113_ok, True.intro, True.intro⟩
noncomputable def tf114 : Tr Func := .node 114 Tryz.f114 tf113 .leaf
theorem tf114_all : tf114.All (fun f F => Tryz.prog.funcs[f]? = some F ∧ (F.name == "runtime.NumGoroutine") = false) := ⟨fn114_ok, tf113_all, True.intro⟩
noncomputable def tf116 : Tr Func := .node 116 Tryz.f116 .leaf .leaf
theorem tf116_all : tf116.All (fun f F => Tryz.prog.funcs[f]? = some F ∧ (F.name == "runtime.NumGoroutine") = false) := ⟨fn116_ok, True.intro, True.intro⟩
noncomputable def tf115 : Tr Func := .node 115 Tryz.f115 tf114 tf116
theorem tf115_all : tf115.All (fun f F => Tryz.prog.funcs[f]? = some F ∧ (F.name == "runtime.NumGoroutine") = false) := ⟨fn115_ok, tf114_all, tf116_all⟩
noncomputable def tf112 : Tr Func := .node 112 Tryz.f112 tf109 tf115
theorem tf112_all : tf112.All (fun f F => Tryz.prog.funcs[f]? = some F ∧ (F.name == "runtime.NumGoroutine") = false) := ⟨fn112_ok, tf109_all, tf115_all⟩
noncomputable def tf106 : Tr Func := .node 106 Tryz.f106 tf100 tf112
theorem tf106_all : tf106.All (fun f F => Tryz.prog.funcs[f]? = some F ∧ (F.name == "runtime.NumGoroutine") = false) := ⟨fn106_ok, tf100_all, tf112_all⟩
noncomputable def tf118 : Tr Func := .node 118 Tryz.f118 .leaf .leaf
theorem tf118_all : tf118.All (fun f F => Tryz.prog.funcs[f]? = some F ∧ (F.name == "runtime.NumGoroutine") = false) := ⟨fn118_ok, True.intro, True.intro⟩
noncomputable def tf119 : Tr Func := .node 119 Tryz.f119 tf118 .leaf
theorem tf119_all : tf119.All (fun f F => Tryz.prog.funcs[f]? = some F ∧ (F.name == "runtime.NumGoroutine") = false) := ⟨fn119_ok, tf118_all, True.intro⟩
noncomputable def tf121 : Tr Func := .node 121 Tryz.f121 .leaf .leaf
theorem tf121_all : tf121.All (fun f F => Tryz.prog.funcs[f]? = some F ∧ (F.name == "runtime.NumGoroutine") = false) := ⟨fn121_ok, True.intro, True.intro⟩
noncomputable def tf122 : Tr Func := .node 122 Tryz.f122 tf121 .leaf
theorem tf122_all : tf122.All (fun f F => Tryz.prog.funcs[f]? = some F ∧ (F.name == "runtime.NumGoroutine") = false) := ⟨fn122_ok, tf121_all, True.intro⟩
noncomputable def tf120 : Tr Func := .node 120 Tryz.f120 tf119 tf122
theorem tf120_all : tf120.All (fun f F => Tryz.prog.funcs[f]? = some F ∧ (F.name == "runtime.NumGoroutine") = false) := ⟨fn120_ok, tf119_all, tf122_all⟩
noncomputable def tf124 : Tr Func := .node 124 Tryz.f124 .leaf .leaf
theorem tf124_all : tf124.All (fun f F => Tryz.prog.funcs[f]? = some F ∧ (F.name == "runtime.NumGoroutine") = false) := ⟨fn124_ok, True.intro, True.intro⟩
noncomputable def tf125 : Tr Func := .node 125 Tryz.f125 tf124 .leaf
theorem tf125_all : tf125.All (fun f F => Tryz.prog.funcs[f]? = some F ∧ (F.name == "runtime.NumGoroutine") = false) := ⟨fn125_ok, tf124_all, True.intro⟩
noncomputable def tf127 : Tr Func := .node 127 Tryz.f127 .leaf .leaf
theorem tf127_all : tf127.All (fun f F => Tryz.prog.funcs[f]? = some F ∧ (F.name == "runtime.NumGoroutine") = false) := ⟨fn127_ok, True.intro, True.intro⟩
noncomputable def tf128 : Tr Func := .node 128 Tryz.f128 tf127 .leaf
theorem tf128_all : tf128.All (fun f F => Tryz.prog.funcs[f]? = some F ∧ (F.name == "runtime.NumGoroutine") = false) := ⟨fn128_ok, tf127_all, True.intro⟩
noncomputable def tf126 : Tr Func := .node 126 Tryz.f126 tf125 tf128
theorem tf126_all : tf126.All (fun f F => Tryz.prog.funcs[f]? = some F ∧ (F.name == "runtime.NumGoroutine") = false) := ⟨fn126_ok, tf125_all, tf128_all⟩
noncomputable def tf123 : Tr Func := .node 123 Tryz.f123 tf120 tf126
theorem tf123_all : tf123.All (fun f F => Tryz.prog.funcs[f]? = some F ∧ (F.name == "runtime.NumGoroutine") = false) := ⟨fn123_ok, tf120_all, tf126_all⟩
noncomputable def tf130 : Tr Func := .node 130 Tryz.f130 .leaf .leaf
theorem tf130_all : tf130.All (fun f F => Tryz.prog.funcs[f]? = some F ∧ (F.name == "runtime.NumGoroutine") = false) := ⟨fn130_ok, True.intro, True.intro⟩
noncomputable def tf131 : Tr Func := .node 131 Tryz.f131 tf130 .leaf
theorem tf131_all : tf131.All (fun f F => Tryz.prog.funcs[f]? = some F ∧ (F.name == "runtime.NumGoroutine") = false) := ⟨fn131_ok, tf130_all, True.intro⟩
noncomputable def tf133 : Tr Func := .node 133 Tryz.f133 .leaf .leaf
theorem tf133_all : tf133.All (fun f F => Tryz.prog.funcs[f]? = some F ∧ (F.name == "runtime.NumGoroutine") = false) := ⟨fn133_ok, True.intro, True.intro⟩
noncomputable def tf134 : Tr Func := .node 134 Tryz.f134 tf133 .leaf
theorem tf134_all : tf134.All (fun f F => Tryz.prog.funcs[f]? = some F ∧ (F.name == "runtime.NumGoroutine") = false) := ⟨fn134_ok, tf133_all, True.intro⟩
noncomputable def tf132 : Tr Func := .node 132 Tryz.f132 tf131 tf134
theorem tf132_all : tf132.All (fun f F => Tryz.prog.funcs[f]? = some F ∧ (F.name == "runtime.NumGoroutine") = false) := ⟨fn132_ok, tf131_all, tf134_all⟩
noncomputable def tf136 : Tr Func := .node 136 Tryz.f136 .leaf .leaf
theorem tf136_all : tf136.All (fun f F => Tryz.prog.funcs[f]? = some F ∧ (F.name == "runtime.NumGoroutine") = false) := ⟨fn136_ok, True.intro, True.intro⟩
noncomputable def tf137 : Tr Func := .node 137 Tryz.f137 tf136 .leaf
theorem tf137_all : tf137.All (fun f F => Tryz.prog.funcs[f]? = some F ∧ (F.name == "runtime.NumGoroutine") = false) := ⟨fn137_ok, tf136_all, True.intro⟩
noncomputable def tf139 : Tr Func := .node 139 Tryz.f139 .leaf .leaf
theorem tf139_all : tf139.All (fun f F => Tryz.prog.funcs[f]? = some F ∧ (F.name == "runtime.NumGoroutine") = false) := ⟨fn139_ok, True.intro, True.intro⟩
noncomputable def tf138 : Tr Func := .node 138 Tryz.f138 tf137 tf139
theorem tf138_all : tf138.All (fun f F => Tryz.prog.funcs[f]? = some F ∧ (F.name == "runtime.NumGoroutine") = false) := ⟨fn138_ok, tf137_all, tf139_all⟩
noncomputable def tf135 : Tr Func := .node 135 Tryz.f135 tf132 tf138
theorem tf135_all : tf135.All (fun f F => Tryz.prog.funcs[f]? = some F ∧ (F.name == "runtime.NumGoroutine") = false) := ⟨fn135_ok, tf132_all, tf138_all⟩
noncomputable def tf129 : Tr Func := .node 129 Tryz.f129 tf123 tf135
theorem tf129_all : tf129.All (fun f F => Tryz.prog.funcs[f]? = some F ∧ (F.name == "runtime.NumGoroutine") = false) := ⟨fn129_ok, tf123_all, tf135_all⟩
noncomputable def tf117 : Tr Func := .node 117 Tryz.f117 tf106 tf129
theorem tf117_all : tf117.All (fun f F => Tryz.prog.funcs[f]? = some F ∧ (F.name == "runtime.NumGoroutine") = false) := ⟨fn117_ok, tf106_all, tf129_all⟩
noncomputable def tf141 : Tr Func := .node 141 Tryz.f141 .leaf .leaf
theorem tf141_all : tf141.All (fun f F => Tryz.prog.funcs[f]? = some F ∧ (F.name == "runtime.NumGoroutine") = false) := ⟨fn141_ok, True.intro, True.intro⟩
noncomputable def tf142 : Tr Func := .node 142 Tryz.f142 tf141 .leaf
theorem tf142_all : tf142.All (fun f F => Tryz.prog.funcs[f]? = some F ∧ (F.name == "runtime.NumGoroutine") = false) := ⟨fn142_ok, tf141_all, True.intro⟩
noncomputable def tf144 : Tr Func := .node 144 Tryz.f144 .leaf .leaf
theorem tf144_all : tf144.All (fun f F => Tryz.prog.funcs[f]? = some F ∧ (F.name == "runtime.NumGoroutine") = false) := ⟨fn144_ok, True.intro, True.intro⟩
noncomputable def tf145 : Tr Func := .node 145 Tryz.f145 tf144 .leaf
theorem tf145_all : tf145.All (fun f F => Tryz.prog.funcs[f]? = some F ∧ (F.name == "runtime.NumGoroutine") = false) := ⟨fn145_ok, tf144_all, True.intro⟩
noncomputable def tf143 : Tr Func := .node 143 Tryz.f143 tf142 tf145
theorem tf143_all : tf143.All (fun f F => Tryz.prog.funcs[f]? = some F ∧ (F.name == "runtime.NumGoroutine") = false) := ⟨fn143_ok, tf142_all, tf145_all⟩
noncomputable def tf147 : Tr Func := .node 147 Tryz.f147 .leaf .leaf
theorem tf147_all : tf147.All (fun f F => Tryz.prog.funcs[f]? = some F ∧ (F.name == "runtime.NumGoroutine") = false) := ⟨fn147_ok, True.intro, True.intro⟩
noncomputable def tf148 : Tr Func := .node 148 Tryz.f148 tf147 .leaf
theorem tf148_all : tf148.All (fun f F => Tryz.prog.funcs[f]? = some F ∧ (F.name == "runtime.NumGoroutine") = false) := ⟨fn148_ok, tf147_all, True.intro⟩
noncomputable def tf150 : Tr Func := .node 150 Tryz.f150 .leaf .leaf
theorem tf150_all : tf150.All (fun f F => Tryz.prog.funcs[f]? = some F ∧ (F.name == "runtime.NumGoroutine") = false) := ⟨fn150_ok, True.intro, True.intro⟩
noncomputable def tf151 : Tr Func := .node 151 Tryz.f151 tf150 .leaf
theorem tf151_all : tf151.All (fun f F => Tryz.prog.funcs[f]? = some F ∧ (F.name == "runtime.NumGoroutine") = false) := ⟨fn151_ok, tf150_all, True.intro⟩
noncomputable def tf149 : Tr Func := .node 149 Tryz.f149 tf148 tf151
theorem tf149_all : tf149.All (fun f F => Tryz.prog.funcs[f]? = some F ∧ (F.name == "runtime.NumGoroutine") = false) := ⟨fn149_ok, tf148_all, tf151_all⟩
noncomputable def tf146 : Tr Func := .node 146 Tryz.f146 tf143 tf149
theorem tf146_all : tf146.All (fun f F => Tryz.prog.funcs[f]? = some F ∧ (F.name == "runtime.NumGoroutine") = false) := ⟨fn146_ok, tf143_all, tf149_all⟩
noncomputable def tf153 : Tr Func := .node 153 Tryz.f153 .leaf .leaf
theorem tf153_all : tf153.All (fun f F => Tryz.prog.funcs[f]? = some F ∧ (F.name == "runtime.NumGoroutine") = false) := ⟨fn153_ok, True.intro, True.intro⟩
noncomputable def tf154 : Tr Func := .node 154 Tryz.f154 tf153 .leaf
theorem tf154_all : tf154.All (fun f F => Tryz.prog.funcs[f]? = some F ∧ (F.name == "runtime.NumGoroutine") = false) := ⟨fn154_ok, tf153_all, True.intro⟩
noncomputable def tf156 : Tr Func := .node 156 Tryz.f156 .leaf .leaf
theorem tf156_all : tf156.All (fun f F => Tryz.prog.funcs[f]? = some F ∧ (F.name == "runtime.NumGoroutine") = false) := ⟨fn156_ok, True.intro, True.intro⟩
noncomputable def tf157 : Tr Func := .node 157 Tryz.f157 tf156 .leaf
theorem tf157_all : tf157.All (fun f F => Tryz.prog.funcs[f]? = some F ∧ (F.name == "runtime.NumGoroutine") = false) := ⟨fn157_ok, tf156_all, True.intro⟩
noncomputable def tf155 : Tr Func := .node 155 Tryz.f155 tf154 tf157
theorem tf155_all : tf155.All (fun f F => Tryz.prog.funcs[f]? = some F ∧ (F.name == "runtime.NumGoroutine") = false) := ⟨fn155_ok, tf154_all, tf157_all⟩
noncomputable def tf159 : Tr Func := .node 159 Tryz.f159 .leaf .leaf
theorem tf159_all : tf159.All (fun f F => Tryz.prog.funcs[f]? = some F ∧ (F.name == "runtime.NumGoroutine") = false) := ⟨fn159_ok, True.intro, True.intro⟩
noncomputable def tf160 : Tr Func := .node 160 Tryz.f160 tf159 .leaf
theorem tf160_all : tf160.All (fun f F => Tryz.prog.funcs[f]? = some F ∧ (F.name == "runtime.NumGoroutine") = false) := ⟨fn160_ok, tf159_all, True.intro⟩
noncomputable def tf162 : Tr Func := .node 162 Tryz.f162 .leaf .leaf
theorem tf162_all : tf162.All (fun f F => Tryz.prog.funcs[f]? = some F ∧ (F.name == "runtime.NumGoroutine") = false) := ⟨fn162_ok, True.intro, True.intro⟩
noncomputable def tf161 : Tr Func := .node 161 Tryz.f161 tf160 tf162
theorem tf161_all : tf161.All (fun f F => Tryz.prog.funcs[f]? = some F ∧ (F.name == "runtime.NumGoroutine") = false) := ⟨fn161_ok, tf160_all, tf162_all⟩
noncomputable def tf158 : Tr Func := .node 158 Tryz.f158 tf155 tf161
theorem tf158_all : tf158.All (fun f F => Tryz.prog.funcs[f]? = some F ∧ (F.name == "runtime.NumGoroutine") = false) := ⟨fn158_ok, tf155_all, tf161_all⟩
noncomputable def tf152 : Tr Func := .node 152 Tryz.f152 tf146 tf158
theorem tf152_all : tf152.All (fun f F => Tryz.prog.funcs[f]? = some F ∧ (F.name == "runtime.NumGoroutine") = false) := ⟨fn152_ok, tf146_all, tf158_all⟩
noncomputable def tf164 : Tr Func := .node 164 Tryz.f164 .leaf .leaf
theorem tf164_all : tf164.All (fun f F => Tryz.prog.funcs[f]? = some F ∧ (F.name == "runtime.NumGoroutine") = false) := ⟨fn164_ok, True.intro, True.intro⟩
noncomputable def tf165 : Tr Func := .node 165 Tryz.f165 tf164 .leaf
theorem tf165_all : tf165.All (fun f F => Tryz.prog.funcs[f]? = some F ∧ (F.name == "runtime.NumGoroutine") = false) := ⟨fn165_ok, tf164_all, True.intro⟩
noncomputable def tf167 : Tr Func := .node 167 Tryz.f167 .leaf .leaf
theorem tf167_all : tf167.All (fun f F => Tryz.prog.funcs[f]? = some F ∧ (F.name == "runtime.NumGoroutine") = false) := ⟨fn167_ok, True.intro, True.intro⟩
noncomputable def tf168 : Tr Func := .node 168 Tryz.f168 tf167 .leaf
theorem tf168_all : tf168.All (fun f F => Tryz.prog.funcs[f]? = some F ∧ (F.name == "runtime.NumGoroutine") = false) := ⟨fn168_ok, tf167_all, True.intro⟩
noncomputable def tf166 : Tr Func := .node 166 Tryz.f166 tf165 tf168
theorem tf166_all : tf166.All (fun f F => Tryz.prog.funcs[f]? = some F ∧ (F.name == "runtime.NumGoroutine") = false) := ⟨fn166_ok, tf165_all, tf168_all⟩
noncomputable def tf170 : Tr Func := .node 170 Tryz.f170 .leaf .leaf
theorem tf170_all : tf170.All (fun f F => Tryz.prog.funcs[f]? = some F ∧ (F.name == "runtime.NumGoroutine") = false) := ⟨fn170_ok, True.intro, True.intro⟩
noncomputable def tf171 : Tr Func := .node 171 Tryz.f171 tf170 .leaf
theorem tf171_all : tf171.All (fun f F => Tryz.prog.funcs[f]? = some F ∧ (F.name == "runtime.NumGoroutine") = false) := ⟨fn171_ok, tf170_all, True.intro⟩
noncomputable def tf173 : Tr Func := .node 173 Tryz.f173 .leaf .leaf
theorem tf173_all : tf173.All (fun f F => Tryz.prog.funcs[f]? = some F ∧ (F.name == "runtime.NumGoroutine") = false) := ⟨fn173_ok, True.intro, True.intro⟩
noncomputable def tf172 : Tr Func := .node 172 Tryz.f172 tf171 tf173
theorem tf172_all : tf172.All (fun f F => Tryz.prog.funcs[f]? = some F ∧ (F.name == "runtime.NumGoroutine") = false) := ⟨fn172_ok, tf171_all, tf173_all⟩
noncomputable def tf169 : Tr Func := .node 169 Tryz.f169 tf166 tf172
theorem tf169_all : tf169.All (fun f F => Tryz.prog.funcs[f]? = some F ∧ (F.name == "runtime.NumGoroutine") = false) := ⟨fn169_ok, tf166_all, tf172_all⟩
noncomputable def tf175 : Tr Func := .node 175 Tryz.f175 .leaf .leaf
theorem tf175_all : tf175.All (fun f F => Tryz.prog.funcs[f]? = some F ∧ (F.name == "runtime.NumGoroutine") = false) := ⟨fn175_ok, True.intro, True.intro⟩
noncomputable def tf176 : Tr Func := .node 176 Tryz.f176 tf175 .leaf
theorem tf176_all : tf176.All (fun f F => Tryz.prog.funcs[f]? = some F ∧ (F.name == "runtime.NumGoroutine") = false) := ⟨fn176_ok, tf175_all, True.intro⟩
noncomputable def tf178 : Tr Func := .node 178 Tryz.f178 .leaf .leaf
theorem tf178_all : tf178.All (fun f F => Tryz.prog.funcs[f]? = some F ∧ (F.name == "runtime.NumGoroutine") = false) := ⟨fn178_ok, True.intro, True.intro⟩
noncomputable def tf179 : Tr Func := .node 179 Tryz.f179 tf178 .leaf
theorem tf179_all : tf179.All (fun f F => Tryz.prog.funcs[f]? = some F ∧ (F.name == "runtime.NumGoroutine") = false) := ⟨fn179_ok, tf178_all, True.intro⟩
noncomputable def tf177 : Tr Func := .node 177 Tryz.f177 tf176 tf179
theorem tf177_all : tf177.All (fun f F => Tryz.prog.funcs[f]? = some F ∧ (F.name == "runtime.NumGoroutine") = false) := ⟨fn177_ok, tf176_all, tf179_all⟩
noncomputable def tf181 : Tr Func := .node 181 Tryz.f181 .leaf .leaf
theorem tf181_all : tf181.All (fun f F => Tryz.prog.funcs[f]? = some F ∧ (F.name == "runtime.NumGoroutine") = false) := ⟨fn181_ok, True.intro, True.intro⟩
noncomputable def tf182 : Tr Func := .node 182 Tryz.f182 tf181 .leaf
theorem tf182_all : tf182.All (fun f F => Tryz.prog.funcs[f]? = some F ∧ (F.name == "runtime.NumGoroutine") = false) := ⟨fn182_ok, tf181_all, True.intro⟩
noncomputable def tf184 : Tr Func := .node 184 Tryz.f184 .leaf .leaf
theorem tf184_all : tf184.All (fun f F => Tryz.prog.funcs[f]? = some F ∧ (F.name == "runtime.NumGoroutine") = false) := ⟨fn184_ok, True.intro, True.intro⟩
noncomputable def tf183 : Tr Func := .node 183 Tryz.f183 tf182 tf184
theorem tf183_all : tf183.All (fun f F => Tryz.prog.funcs[f]? = some F ∧ (F.name == "runtime.NumGoroutine") = false) := ⟨fn183_ok, tf182_all, tf184_all⟩
noncomputable def tf180 : Tr Func := .node 180 Tryz.f180 tf177 tf183
theorem tf180_all : tf180.All (fun f F => Tryz.prog.funcs[f]? = some F ∧ (F.name == "runtime.NumGoroutine") = false) := ⟨fn180_ok, tf177_all, tf183_all⟩
noncomputable def tf174 : Tr Func := .node 174 Tryz.f174 tf169 tf180
theorem tf174_all : tf174.All (fun f F => Tryz.prog.funcs[f]? = some F ∧ (F.name == "runtime.NumGoroutine") = false) := ⟨fn174_ok, tf169_all, tf180_all⟩
noncomputable def tf163 : Tr Func := .node 163 Tryz.f163 tf152 tf174
theorem tf163_all : tf163.All (fun f F => Tryz.prog.funcs[f]? = some F ∧ (F.name == "runtime.NumGoroutine") = false) := ⟨fn163_ok, tf152_all, tf174_all⟩
noncomputable def tf140 : Tr Func := .node 140 Tryz.f140 tf117 tf163
theorem tf140_all : tf140.All (fun f F => Tryz.prog.funcs[f]? = some F ∧ (F.name == "runtime.NumGoroutine") = false) := ⟨fn140_ok, tf117_all, tf163_all⟩
noncomputable def tf94 : Tr Func := .node 94 Tryz.f94 tf48 tf140
theorem tf94_all : tf94.All (fun f F => Tryz.prog.funcs[f]? = some F ∧ (F.name == "runtime.NumGoroutine") = false) := ⟨fn94_ok, tf48_all, tf140_all⟩
noncomputable def tf186 : Tr Func := .node 186 Tryz.f186 .leaf .leaf
theorem tf186_all : tf186.All (fun f F => Tryz.prog.funcs[f]? = some F ∧ (F.name == "runtime.NumGoroutine") = false) := ⟨fn186_ok, True.intro, True.intro⟩
noncomputable def tf187 : Tr Func := .node 187 Tryz.f187 tf186 .leaf
theorem tf187_all : tf187.All (fun f F => Tryz.prog.funcs[f]? = some F ∧ (F.name == "runtime.NumGoroutine") = false) := ⟨fn187_ok, tf186_all, True.intro⟩
noncomputable def tf189 : Tr Func := .node 189 Tryz.f189 .leaf .leaf
theorem tf189_all : tf189.All (fun f F => Tryz.prog.funcs[f]? = some F ∧ (F.name == "runtime.NumGoroutine") = false) := ⟨fn189_ok, True.intro, True.intro⟩
noncomputable def tf190 : Tr Func := .node 190 Tryz.f190 tf189 .leaf
theorem tf190_all : tf190.All (fun f F => Tryz.prog.funcs[f]? = some F ∧ (F.name == "runtime.NumGoroutine") = false) := ⟨fn190_ok, tf189_all, True.intro⟩
noncomputable def tf188 : Tr Func := .node 188 Tryz.f188 tf187 tf190
theorem tf188_all : tf188.All (fun f F => Tryz.prog.funcs[f]? = some F ∧ (F.name == "runtime.NumGoroutine") = false) := ⟨fn188_ok, tf187_all, tf190_all⟩
noncomputable def tf192 : Tr Func := .node 192 Tryz.f192 .leaf .leaf
theorem tf192_all : tf192.All (fun f F => Tryz.prog.funcs[f]? = some F ∧ (F.name == "runtime.NumGoroutine") = false) := ⟨fn192_ok, True.intro, True.intro⟩
noncomputable def tf193 : Tr Func := .node 193 Tryz.f193 tf192 .leaf
theorem tf193_all : tf193.All (fun f F => Tryz.prog.funcs[f]? = some F ∧ (F.name == "runtime.NumGoroutine") = false) := ⟨fn193_ok, tf192_all, True.intro⟩
noncomputable def tf195 : Tr Func := .node 195 Tryz.f195 .leaf .leaf
theorem tf195_all : tf195.All (fun f F => Tryz.prog.funcs[f]? = some F ∧ (F.name == "runtime.NumGoroutine") = false) := ⟨fn195_ok, True.intro, True.intro⟩
noncomputable def tf196 : Tr Func := .node 196 Tryz.f196 tf195 .leaf
theorem tf196_all : tf196.All (fun f F => Tryz.prog.funcs[f]? = some F ∧ (F.name == "runtime.NumGoroutine") = false) := ⟨fn196_ok, tf195_all, True.intro⟩
noncomputable def tf194 : Tr Func := .node 194 Tryz.f194 tf193 tf196
theorem tf194_all : tf194.All (fun f F => Tryz.prog.funcs[f]? = some F ∧ (F.name == "runtime.NumGoroutine") = false) := ⟨fn194_ok, tf193_all, tf196_all⟩
noncomputable def tf191 : Tr Func := .node 191 Tryz.f191 tf188 tf194
theorem tf191_all : tf191.All (fun f F => Tryz.prog.funcs[f]? = some F ∧ (F.name == "runtime.NumGoroutine") = false) := ⟨fn191_ok, tf188_all, tf194_all⟩
noncomputable def tf198 : Tr Func := .node 198 Tryz.f198 .leaf .leaf
theorem tf198_all : tf198.All (fun f F => Tryz.prog.funcs[f]? = some F ∧ (F.name == "runtime.NumGoroutine") = false) := ⟨fn198_ok, True.intro, True.intro⟩
noncomputable def tf199 : Tr Func := .node 199 Tryz.f199 tf198 .leaf
theorem tf199_all : tf199.All (fun f F => Tryz.prog.funcs[f]? = some F ∧ (F.name == "runtime.NumGoroutine") = false) := ⟨fn199_ok, tf198_all, True.intro⟩
noncomputable def tf201 : Tr Func := .node 201 Tryz.f201 .leaf .leaf
theorem tf201_all : tf201.All (fun f F => Tryz.prog.funcs[f]? = some F ∧ (F.name == "runtime.NumGoroutine") = false) := ⟨fn201_ok, True.intro, True.intro⟩
noncomputable def tf202 : Tr Func := .node 202 Tryz.f202 tf201 .leaf
theorem tf202_all : tf202.All (fun f F => Tryz.prog.funcs[f]? = some F ∧ (F.name == "runtime.NumGoroutine") = false) := ⟨fn202_ok, tf201_all, True.intro⟩
noncomputable def tf200 : Tr Func := .node 200 Tryz.f200 tf199 tf202
theorem tf200_all : tf200.All (fun f F => Tryz.prog.funcs[f]? = some F ∧ (F.name == "runtime.NumGoroutine") = false) := ⟨fn200_ok, tf199_all, tf202_all⟩
noncomputable def tf204 : Tr Func := .node 204 Tryz.f204 .leaf .leaf
theorem tf204_all : tf204.All (fun f F => Tryz.prog.funcs[f]? = some F ∧ (F.name == "runtime.NumGoroutine") = false) := ⟨fn204_ok, True.intro, True.intro⟩
noncomputable def tf205 : Tr Func := .node 205 Tryz.f205 tf204 .leaf
theorem tf205_all : tf205.All (fun f F => Tryz.prog.funcs[f]? = some F ∧ (F.name == "runtime.NumGoroutine") = false) := ⟨fn205_ok, tf204_all, True.intro⟩
noncomputable def tf207 : Tr Func := .node 207 Tryz.f207 .leaf .leaf
theorem tf207_all : tf207.All (fun f F => Tryz.prog.funcs[f]? = some F ∧ (F.name == "runtime.NumGoroutine") = false) := ⟨fn207_ok, True.intro, True.intro⟩
noncomputable def tf206 : Tr Func := .node 206 Tryz.f206 tf205 tf207
theorem tf206_all : tf206.All (fun f F => Tryz.prog.funcs[f]? = some F ∧ (F.name == "runtime.NumGoroutine") = false) := ⟨fn206_ok, tf205_all, tf207_all⟩
noncomputable def tf203 : Tr Func := .node 203 Tryz.f203 tf200 tf206
theorem tf203_all : tf203.All (fun f F => Tryz.prog.funcs[f]? = some F ∧ (F.name == "runtime.NumGoroutine") = false) := ⟨fn203_ok, tf200_all, tf206_all⟩
noncomputable def tf197 : Tr Func := .node 197 Tryz.f197 tf191 tf203
theorem tf197_all : tf197.All (fun f F => Tryz.prog.funcs[f]? = some F ∧ (F.name == "runtime.NumGoroutine") = false) := ⟨fn197_ok, tf191_all, tf203_all⟩
noncomputable def tf209 : Tr Func := .node 209 Tryz.f209 .leaf .leaf
theorem tf209_all : tf209.All (fun f F => Tryz.prog.funcs[f]? = some F ∧ (F.name == "runtime.NumGoroutine") = false) := ⟨fn209_ok, True.intro, True.intro⟩
noncomputable def tf210 : Tr Func := .node 210 Tryz.f210 tf209 .leaf
theorem tf210_all : tf210.All (fun f F => Tryz.prog.funcs[f]? = some F ∧ (F.name == "runtime.NumGoroutine") = false) := ⟨fn210_ok, tf209_all, True.intro⟩
noncomputable def tf212 : Tr Func := .node 212 Tryz.f212 .leaf .leaf
theorem tf212_all : tf212.All (fun f F => Tryz.prog.funcs[f]? = some F ∧ (F.name == "runtime.NumGoroutine") = false) := ⟨fn212_ok, True.intro, True.intro⟩
noncomputable def tf213 : Tr Func := .node 213 Tryz.f213 tf212 .leaf
theorem tf213_all : tf213.All (fun f F => Tryz.prog.funcs[f]? = some F ∧ (F.name == "runtime.NumGoroutine") = false) := ⟨fn213_ok, tf212_all, True.intro⟩
noncomputable def tf211 : Tr Func := .node 211 Tryz.f211 tf210 tf213
theorem tf211_all : tf211.All (fun f F => Tryz.prog.funcs[f]? = some F ∧ (F.name == "runtime.NumGoroutine") = false) := ⟨fn211_ok, tf210_all, tf213_all⟩
noncomputable def tf215 : Tr Func := .node 215 Tryz.f215 .leaf .leaf
theorem tf215_all : tf215.All (fun f F => Tryz.prog.funcs[f]? = some F ∧ (F.name == "runtime.NumGoroutine") = false) := ⟨fn215_ok, True.intro, True.intro⟩
noncomputable def tf216 : Tr Func := .node 216 Tryz.f216 tf215 .leaf
theorem tf216_all : tf216.All (fun f F => Tryz.prog.funcs[f]? = some F ∧ (F.name == "runtime.NumGoroutine") = false) := ⟨fn216_ok, tf215_all, True.intro⟩
noncomputable def tf218 : Tr Func := .node 218 Tryz.f218 .leaf .leaf
theorem tf218_all : tf218.All (fun f F => Tryz.prog.funcs[f]? = some F ∧ (F.name == "runtime.NumGoroutine") = false) := ⟨fn218_ok, True.intro, True.intro⟩
noncomputable def tf219 : Tr Func := .node 219 Tryz.f219 tf218 .leaf
theorem tf219_all : tf219.All (fun f F => Tryz.prog.funcs[f]? = some F ∧ (F.name == "runtime.NumGoroutine") = false) := ⟨fn219_ok, tf218_all, True.intro⟩
noncomputable def tf217 : Tr Func := .node 217 Tryz.f217 tf216 tf219
theorem tf217_all : tf217.All (fun f F => Tryz.prog.funcs[f]? = some F ∧ (F.name == "runtime.NumGoroutine") = false) := ⟨fn217_ok, tf216_all, tf219_all⟩
noncomputable def tf214 : Tr Func := .node 214 Tryz.f214 tf211 tf217
theorem tf214_all : tf214.All (fun f F => Tryz.prog.funcs[f]? = some F ∧ (F.name == "runtime.NumGoroutine") = false) := ⟨fn214_ok, tf211_all, tf217_all⟩
noncomputable def tf221 : Tr Func := .node 221 Tryz.f221 .leaf .leaf
theorem tf221_all : tf221.All (fun f F => Tryz.prog.funcs[f]? = some F ∧ (F.name == "runtime.NumGoroutine") = false) := ⟨fn221_ok, True.intro, True.intro⟩
noncomputable def tf222 : Tr Func := .node 222 Tryz.f222 tf221 .leaf
theorem tf222_all : tf222.All (fun f F => Tryz.prog.funcs[f]? = some F ∧ (F.name == "runtime.NumGoroutine") = false) := ⟨fn222_ok, tf221_all, True.intro⟩
noncomputable def tf224 : Tr Func := .node 224 Tryz.f224 .leaf .leaf
theorem tf224_all : tf224.All (fun f F => Tryz.prog.funcs[f]? = some F ∧ (F.name == "runtime.NumGoroutine") = false) := ⟨fn224_ok, True.intro, True.intro⟩
noncomputable def tf225 : Tr Func := .node 225 Tryz.f225 tf224 .leaf
theorem tf225_all : tf225.All (fun f F => Tryz.prog.funcs[f]? = some F ∧ (F.name == "runtime.NumGoroutine") = false) := ⟨fn225_ok, tf224_all, True.intro⟩
noncomputable def tf223 : Tr Func := .node 223 Tryz.f223 tf222 tf225
theorem tf223_all : tf223.All (fun f F => Tryz.prog.funcs[f]? = some F ∧ (F.name == "runtime.NumGoroutine") = false) := ⟨fn223_ok, tf222_all, tf225_all⟩
noncomputable def tf227 : Tr Func := .node 227 Tryz.f227 .leaf .leaf
theorem tf227_all : tf227.All (fun f F => Tryz.prog.funcs[f]? = some F ∧ (F.name == "runtime.NumGoroutine") = false) := ⟨fn227_ok, True.intro, True.intro⟩
noncomputable def tf228 : Tr Func := .node 228 Tryz.f228 tf227 .leaf
theorem tf228_all : tf228.All (fun f F => Tryz.prog.funcs[f]? = some F ∧ (F.name == "runtime.NumGoroutine") = false) := ⟨fn228_ok, tf227_all, True.intro⟩
noncomputable def tf230 : Tr Func := .node 230 Tryz.f230 .leaf .leaf
theorem tf230_all : tf230.All (fun f F => Tryz.prog.funcs[f]? = some F ∧ (F.name == "runtime.NumGoroutine") = false) := ⟨fn230_ok, True.intro, True.intro⟩
noncomputable def tf229 : Tr Func := .node 229 Tryz.f229 tf228 tf230
theorem tf229_all : tf229.All (fun f F => Tryz.prog.funcs[f]? = some F ∧ (F.name == "runtime.NumGoroutine") = false) := ⟨fn229_ok, tf228_all, tf230_all⟩
noncomputable def tf226 : Tr Func := .node 226 Tryz.f226 tf223 tf229
theorem tf226_all : tf226.All (fun f F => Tryz.prog.funcs[f]? = some F ∧ (F.name == "runtime.NumGoroutine") = false) := ⟨fn226_ok, tf223_all, tf229_all⟩
noncomputable def tf220 : Tr Func := .node 220 Tryz.f220 tf214 tf226
theorem tf220_all : tf220.All (fun f F => Tryz.prog.funcs[f]? = some F ∧ (F.name == "runtime.NumGoroutine") = false) := ⟨fn220_ok, tf214_all, tf226_all⟩
noncomputable def tf208 : Tr Func := .node 208 Tryz.f208 tf197 tf220
theorem tf208_all : tf208.All (fun f F => Tryz.prog.funcs[f]? = some F ∧ (F.name == "runtime.NumGoroutine") = false) := ⟨fn208_ok, tf197_all, tf220_all⟩
noncomputable def tf232 : Tr Func := .node 232 Tryz.f232 .leaf .leaf
theorem tf232_all : tf232.All (fun f F => Tryz.prog.funcs[f]? = some F ∧ (F.name == "runtime.NumGoroutine") = false) := ⟨fn232_ok, True.intro, True.intro⟩
noncomputable def tf233 : Tr Func := .node 233 Tryz.f233 tf232 .leaf
theorem tf233_all : tf233.All (fun f F => Tryz.prog.funcs[f]? = some F ∧ (F.name == "runtime.NumGoroutine") = false) := ⟨fn233_ok, tf232_all, True.intro⟩
noncomputable def tf235 : Tr Func := .node 235 Tryz.f235 .leaf .leaf
theorem tf235_all : tf235.All (fun f F => Tryz.prog.funcs[f]? = some F ∧ (F.name == "runtime.NumGoroutine") = false) := ⟨fn235_ok, True.intro, True.intro⟩
noncomputable def tf236 : Tr Func := .node 236 Tryz.f236 tf235 .leaf
theorem tf236_all : tf236.All (fun f F => Tryz.prog.funcs[f]? = some F ∧ (F.name == "runtime.NumGoroutine") = false) := ⟨fn236_ok, tf235_all, True.intro⟩
noncomputable def tf234 : Tr Func := .node 234 Tryz.f234 tf233 tf236
theorem tf234_all : tf234.All (fun f F => Tryz.prog.funcs[f]? = some F ∧ (F.name == "runtime.NumGoroutine") = false) := ⟨fn234_ok, tf233_all, tf236_all⟩
noncomputable def tf238 : Tr Func := .node 238 Tryz.f238 .leaf .leaf
theorem tf238_all : tf238.All (fun f F => Tryz.prog.funcs[f]? = some F ∧ (F.name == "runtime.NumGoroutine") = false) := ⟨fn238_ok, True.intro, True.intro⟩
noncomputable def tf239 : Tr Func := .node 239 Tryz.f239 tf238 .leaf
theorem tf239_all : tf239.All (fun f F => Tryz.prog.funcs[f]? = some F ∧ (F.name == "runtime.NumGoroutine") = false) := ⟨fn239_ok, tf238_all, True.intro⟩
noncomputable def tf241 : Tr Func := .node 241 Tryz.f241 .leaf .leaf
theorem tf241_all : tf241.All (fun f F => Tryz.prog.funcs[f]? = some F ∧ (F.name == "runtime.NumGoroutine") = false) := ⟨fn241_ok, True.intro, True.intro⟩
noncomputable def tf242 : Tr Func := .node 242 Tryz.f242 tf241 .leaf
theorem tf242_all : tf242.All (fun f F => Tryz.prog.funcs[f]? = some F ∧ (F.name == "runtime.NumGoroutine") = false) := ⟨fn242_ok, tf241_all, True.intro⟩
noncomputable def tf240 : Tr Func := .node 240 Tryz.f240 tf239 tf242
theorem tf240_all : tf240.All (fun f F => Tryz.prog.funcs[f]? = some F ∧ (F.name == "runtime.NumGoroutine") = false) := ⟨fn240_ok, tf239_all, tf242_all⟩
noncomputable def tf237 : Tr Func := .node 237 Tryz.f237 tf234 tf240
theorem tf237_all : tf237.All (fun f F => Tryz.prog.funcs[f]? = some F ∧ (F.name == "runtime.NumGoroutine") = false) := ⟨fn237_ok, tf234_all, tf240_all⟩
noncomputable def tf244 : Tr Func := .node 244 Tryz.f244 .leaf .leaf
theorem tf244_all : tf244.All (fun f F => Tryz.prog.funcs[f]? = some F ∧ (F.name == "runtime.NumGoroutine") = false) := ⟨fn244_ok, True.intro, True.intro⟩
noncomputable def tf245 : Tr Func := .node 245 Tryz.f245 tf244 .leaf
theorem tf245_all : tf245.All (fun f F => Tryz.prog.funcs[f]? = some F ∧ (F.name == "runtime.NumGoroutine") = false) := ⟨fn245_ok, tf244_all, True.intro⟩
noncomputable def tf247 : Tr Func := .node 247 Tryz.f247 .leaf .leaf
theorem tf247_all : tf247.All (fun f F => Tryz.prog.funcs[f]? = some F ∧ (F.name == "runtime.NumGoroutine") = false) := ⟨fn247_ok, True.intro, True.intro⟩
noncomputable def tf248 : Tr Func := .node 248 Tryz.f248 tf247 .leaf
theorem tf248_all : tf248.All (fun f F => Tryz.prog.funcs[f]? = some F ∧ (F.name == "runtime.NumGoroutine") = false) := ⟨fn248_ok, tf247_all, True.intro⟩
noncomputable def tf246 : Tr Func := .node 246 Tryz.f246 tf245 tf248
theorem tf246_all : tf246.All (fun f F => Tryz.prog.funcs[f]? = some F ∧ (F.name == "runtime.NumGoroutine") = false) := ⟨fn246_ok, tf245_all, tf248_all⟩
noncomputable def tf250 : Tr Func := .node 250 Tryz.f250 .leaf .leaf
theorem tf250_all : tf250.All (fun f F => Tryz.prog.funcs[f]? = some F ∧ (F.name == "runtime.NumGoroutine") = false) := ⟨fn250_ok, True.intro, True.intro⟩
noncomputable def tf251 : Tr Func := .node 251 Tryz.f251 tf250 .leaf
theorem tf251_all : tf251.All (fun f F => Tryz.prog.funcs[f]? = some F ∧ (F.name == "runtime.NumGoroutine") = false) := ⟨fn251_ok, tf250_all, True.intro⟩
noncomputable def tf253 : Tr Func := .node 253 Tryz.f253 .leaf .leaf
theorem tf253_all : tf253.All (fun f F => Tryz.prog.funcs[f]? = some F ∧ (F.name == "runtime.NumGoroutine") = false) := ⟨fn253_ok, True.intro, True.intro⟩
noncomputable def tf252 : Tr Func := .node 252 Tryz.f252 tf251 tf253
theorem tf252_all : tf252.All (fun f F => Tryz.prog.funcs[f]? = some F ∧ (F.name == "runtime.NumGoroutine") = false) := ⟨fn252_ok, tf251_all, tf253_all⟩
noncomputable def tf249 : Tr Func := .node 249 Tryz.f249 tf246 tf252
theorem tf249_all : tf249.All (fun f F => Tryz.prog.funcs[f]? = some F ∧ (F.name == "runtime.NumGoroutine") = false) := ⟨fn249_ok, tf246_all, tf252_all⟩
noncomputable def tf243 : Tr Func := .node 243 Tryz.f243 tf237 tf249
theorem tf243_all : tf243.All (fun f F => Tryz.prog.funcs[f]? = some F ∧ (F.name == "runtime.NumGoroutine") = false) := ⟨fn243_ok, tf237_all, tf249_all⟩
noncomputable def tf255 : Tr Func := .node 255 Tryz.f255 .leaf .leaf
theorem tf255_all : tf255.All (fun f F => Tryz.prog.funcs[f]? = some F ∧ (F.name == "runtime.NumGoroutine") = false) := ⟨fn255_ok, True.intro, True.intro⟩
noncomputable def tf256 : Tr Func := .node 256 Tryz.f256 tf255 .leaf
theorem tf256_all : tf256.All (fun f F => Tryz.prog.funcs[f]? = some F ∧ (F.name == "runtime.NumGoroutine") = false) := ⟨fn256_ok, tf255_all, True.intro⟩
noncomputable def tf258 : Tr Func := .node 258 Tryz.f258 .leaf .leaf
theorem tf258_all : tf258.All (fun f F => Tryz.prog.funcs[f]? = some F ∧ (F.name == "runtime.NumGoroutine") = false) := ⟨fn258_ok, True.intro, True.intro⟩
noncomputable def tf259 : Tr Func := .node 259 Tryz.f259 tf258 .leaf
theorem tf259_all : tf259.All (fun f F => Tryz.prog.funcs[f]? = some F ∧ (F.name == "runtime.NumGoroutine") = false) := ⟨fn259_ok, tf258_all, True.intro⟩
noncomputable def tf257 : Tr Func := .node 257 Tryz.f257 tf256 tf259
theorem tf257_all : tf257.All (fun f F => Tryz.prog.funcs[f]? = some F ∧ (F.name == "runtime.NumGoroutine") = false) := ⟨fn257_ok, tf256_all, tf259_all⟩
noncomputable def tf261 : Tr Func := .node 261 Tryz.f261 .leaf .leaf
theorem tf261_all : tf261.All (fun f F => Tryz.prog.funcs[f]? = some F ∧ (F.name == "runtime.NumGoroutine") = false) := ⟨fn261_ok, True.intro, True.intro⟩
noncomputable def tf262 : Tr Func := .node 262 Tryz.f262 tf261 .leaf
theorem tf262_all : tf262.All (fun f F => Tryz.prog.funcs[f]? = some F ∧ (F.name == "runtime.NumGoroutine") = false) := ⟨fn262_ok, tf261_all, True.intro⟩
noncomputable def tf264 : Tr Func := .node 264 Tryz.f264 .leaf .leaf
theorem tf264_all : tf264.All (fun f F => Tryz.prog.funcs[f]? = some F ∧ (F.name == "runtime.NumGoroutine") = false) := ⟨fn264_ok, True.intro, True.intro⟩
noncomputable def tf263 : Tr Func := .node 263 Tryz.f263 tf262 tf264
theorem tf263_all : tf263.All (fun f F => Tryz.prog.funcs[f]? = some F ∧ (F.name == "runtime.NumGoroutine") = false) := ⟨fn263_ok, tf262_all, tf264_all⟩
noncomputable def tf260 : Tr Func := .node 260 Tryz.f260 tf257 tf263
theorem tf260_all : tf260.All (fun f F => Tryz.prog.funcs[f]? = some F ∧ (F.name == "runtime.NumGoroutine") = false) := ⟨fn260_ok, tf257_all, tf263_all⟩
noncomputable def tf266 : Tr Func := .node 266 Tryz.f266 .leaf .leaf
theorem tf266_all : tf266.All (fun f F => Tryz.prog.funcs[f]? = some F ∧ (F.name == "runtime.NumGoroutine") = false) := ⟨fn266_ok, True.intro, True.intro⟩
noncomputable def tf267 : Tr Func := .node 267 Tryz.f267 tf266 .leaf
theorem tf267_all : tf267.All (fun f F => Tryz.prog.funcs[f]? = some F ∧ (F.name == "runtime.NumGoroutine") = false) := ⟨fn267_ok, tf266_all, True.intro⟩
noncomputable def tf269 : Tr Func := .node 269 Tryz.f269 .leaf .leaf
theorem tf269_all : tf269.All (fun f F => Tryz.prog.funcs[f]? = some F ∧ (F.name == "runtime.NumGoroutine") = false) := ⟨fn269_ok, True.intro, True.intro⟩
noncomputable def tf270 : Tr Func := .node 270 Tryz.f270 tf269 .leaf
theorem tf270_all : tf270.All (fun f F => Tryz.prog.funcs[f]? = some F ∧ (F.name == "runtime.NumGoroutine") = false) := ⟨fn270_ok, tf269_all, True.intro⟩
noncomputable def tf268 : Tr Func := .node 268 Tryz.f268 tf267 tf270
theorem tf268_all : tf268.All (fun f F => Tryz.prog.funcs[f]? = some F ∧ (F.name == "runtime.NumGoroutine") = false) := ⟨fn268_ok, tf267_all, tf270_all⟩
noncomputable def tf272 : Tr Func := .node 272 Tryz.f272 .leaf .leaf
theorem tf272_all : tf272.All (fun f F => Tryz.prog.funcs[f]? = some F ∧ (F.name == "runtime.NumGoroutine") = false) := ⟨fn272_ok, True.intro, True.intro⟩
noncomputable def tf273 : Tr Func := .node 273 Tryz.f273 tf272 .leaf
theorem tf273_all : tf273.All (fun f F => Tryz.prog.funcs[f]? = some F ∧ (F.name == "runtime.NumGoroutine") = false) := ⟨fn273_ok, tf272_all, True.intro⟩
noncomputable def tf275 : Tr Func := .node 275 Tryz.f275 .leaf .leaf
theorem tf275_all : tf275.All (fun f F => Tryz.prog.funcs[f]? = some F ∧ (F.name == "runtime.NumGoroutine") = false) := ⟨fn275_ok, True.intro, True.intro⟩
noncomputable def tf274 : Tr Func := .node 274 Tryz.f274 tf273 tf275
theorem tf274_all : tf274.All (fun f F => Tryz.prog.funcs[f]? = some F ∧ (F.name == "runtime.NumGoroutine") = false) := ⟨fn274_ok, tf273_all, tf275_all⟩
noncomputable def tf271 : Tr Func := .node 271 Tryz.f271 tf268 tf274
theorem tf271_all : tf271.All (fun f F => Tryz.prog.funcs[f]? = some F ∧ (F.name == "runtime.NumGoroutine") = false) := ⟨fn271_ok, tf268_all, tf274_all⟩
noncomputable def tf265 : Tr Func := .node 265 Tryz.f265 tf260 tf271
theorem tf265_all : tf265.All (fun f F => Tryz.prog.funcs[f]? = some F ∧ (F.name == "runtime.NumGoroutine") = false) := ⟨fn265_ok, tf260_all, tf271_all⟩
noncomputable def tf254 : Tr Func := .node 254 Tryz.f254 tf243 tf265
theorem tf254_all : tf254.All (fun f F => Tryz.prog.funcs[f]? = some F ∧ (F.name == "runtime.NumGoroutine") = false) := ⟨fn254_ok, tf243_all, tf265_all⟩
noncomputable def tf231 : Tr Func := .node 231 Tryz.f231 tf208 tf254
theorem tf231_all : tf231.All (fun f F => Tryz.prog.funcs[f]? = some F ∧ (F.name == "runtime.NumGoroutine") = false) := ⟨fn231_ok, tf208_all, tf254_all⟩
noncomputable def tf277 : Tr Func := .node 277 Tryz.f277 .leaf .leaf
theorem tf277_all : tf277.All (fun f F => Tryz.prog.funcs[f]? = some F ∧ (F.name == "runtime.NumGoroutine") = false) := ⟨fn277_ok, True.intro, True.intro⟩
noncomputable def tf278 : Tr Func := .node 278 Tryz.f278 tf277 .leaf
theorem tf278_all : tf278.All (fun f F => Tryz.prog.funcs[f]? = some F ∧ (F.name == "runtime.NumGoroutine") = false) := ⟨fn278_ok, tf277_all, True.intro⟩
noncomputable def tf280 : Tr Func := .node 280 Tryz.f280 .leaf .leaf
theorem tf280_all : tf280.All (fun f F => Tryz.prog.funcs[f]? = some F ∧ (F.name == "runtime.NumGoroutine") = false) := ⟨fn280_ok, True.intro, True.intro⟩
noncomputable def tf281 : Tr Func := .node 281 Tryz.f281 tf280 .leaf
theorem tf281_all : tf281.All (fun f F => Tryz.prog.funcs[f]? = some F ∧ (F.name == "runtime.NumGoroutine") = false) := ⟨fn281_ok, tf280_all, True.intro⟩
noncomputable def tf279 : Tr Func := .node 279 Tryz.f279 tf278 tf281
theorem tf279_all : tf279.All (fun f F => Tryz.prog.funcs[f]? = some F ∧ (F.name == "runtime.NumGoroutine") = false) := ⟨fn279_ok, tf278_all, tf281_all⟩
noncomputable def tf283 : Tr Func := .node 283 Tryz.f283 .leaf .leaf
theorem tf283_all : tf283.All (fun f F => Tryz.prog.funcs[f]? = some F ∧ (F.name == "runtime.NumGoroutine") = false) := ⟨fn283_ok, True.intro, True.intro⟩
noncomputable def tf284 : Tr Func := .node 284 Tryz.f284 tf283 .leaf
theorem tf284_all : tf284.All (fun f F => Tryz.prog.funcs[f]? = some F ∧ (F.name == "runtime.NumGoroutine") = false) := ⟨fn284_ok, tf283_all, True.intro⟩
noncomputable def tf286 : Tr Func := .node 286 Tryz.f286 .leaf .leaf
theorem tf286_all : tf286.All (fun f F => Tryz.prog.funcs[f]? = some F ∧ (F.name == "runtime.NumGoroutine") = false) := ⟨fn286_ok, True.intro, True.intro⟩
noncomputable def tf287 : Tr Func := .node 287 Tryz.f287 tf286 .leaf
theorem tf287_all : tf287.All (fun f F => Tryz.prog.funcs[f]? = some F ∧ (F.name == "runtime.NumGoroutine") = false) := ⟨fn287_ok, tf286_all, True.intro⟩
noncomputable def tf285 : Tr Func := .node 285 Tryz.f285 tf284 tf287
theorem tf285_all : tf285.All (fun f F => Tryz.prog.funcs[f]? = some F ∧ (F.name == "runtime.NumGoroutine") = false) := ⟨fn285_ok, tf284_all, tf287_all⟩
noncomputable def tf282 : Tr Func := .node 282 Tryz.f282 tf279 tf285
theorem tf282_all : tf282.All (fun f F => Tryz.prog.funcs[f]? = some F ∧ (F.name == "runtime.NumGoroutine") = false) := ⟨fn282_ok, tf279_all, tf285_all⟩
noncomputable def tf289 : Tr Func := .node 289 Tryz.f289 .leaf .leaf
theorem tf289_all : tf289.All (fun f F => Tryz.prog.funcs[f]? = some F ∧ (F.name == "runtime.NumGoroutine") = false) := ⟨fn289_ok, True.intro, True.intro⟩
noncomputable def tf290 : Tr Func := .node 290 Tryz.f290 tf289 .leaf
theorem tf290_all : tf290.All (fun f F => Tryz.prog.funcs[f]? = some F ∧ (F.name == "runtime.NumGoroutine") = false) := ⟨fn290_ok, tf289_all, True.intro⟩
noncomputable def tf292 : Tr Func := .node 292 Tryz.f292 .leaf .leaf
theorem tf292_all : tf292.All (fun f F => Tryz.prog.funcs[f]? = some F ∧ (F.name == "runtime.NumGoroutine") = false) := ⟨fn292_ok, True.intro, True.intro⟩
noncomputable def tf293 : Tr Func := .node 293 Tryz.f293 tf292 .leaf
theorem tf293_all : tf293.All (fun f F => Tryz.prog.funcs[f]? = some F ∧ (F.name == "runtime.NumGoroutine") = false) := ⟨fn293_ok, tf292_all, True.intro⟩
noncomputable def tf291 : Tr Func := .node 291 Tryz.f291 tf290 tf293
theorem tf291_all : tf291.All (fun f F => Tryz.prog.funcs[f]? = some F ∧ (F.name == "runtime.NumGoroutine") = false) := ⟨fn291_ok, tf290_all, tf293_all⟩
noncomputable def tf295 : Tr Func := .node 295 Tryz.f295 .leaf .leaf
theorem tf295_all : tf295.All (fun f F => Tryz.prog.funcs[f]? = some F ∧ (F.name == "runtime.NumGoroutine") = false) := ⟨fn295_ok, True.intro, True.intro⟩
noncomputable def tf296 : Tr Func := .node 296 Tryz.f296 tf295 .leaf
theorem tf296_all : tf296.All (fun f F => Tryz.prog.funcs[f]? = some F ∧ (F.name == "runtime.NumGoroutine") = false) := ⟨fn296_ok, tf295_all, True.intro⟩
noncomputable def tf298 : Tr Func := .node 298 Tryz.f298 .leaf .leaf
theorem tf298_all : tf298.All (fun f F => Tryz.prog.funcs[f]? = some F ∧ (F.name == "runtime.NumGoroutine") = false) := ⟨fn298_ok, True.intro, True.intro⟩
noncomputable def tf297 : Tr Func := .node 297 Tryz.f297 tf296 tf298
theorem tf297_all : tf297.All (fun f F => Tryz.prog.funcs[f]? = some F ∧ (F.name == "runtime.NumGoroutine") = false) := ⟨fn297_ok, tf296_all, tf298_all⟩
noncomputable def tf294 : Tr Func := .node 294 Tryz.f294 tf291 tf297
theorem tf294_all : tf294.All (fun f F => Tryz.prog.funcs[f]? = some F ∧ (F.name == "runtime.NumGoroutine") = false) := ⟨fn294_ok, tf291_all, tf297_all⟩
noncomputable def tf288 : Tr Func := .node 288 Tryz.f288 tf282 tf294
theorem tf288_all : tf288.All (fun f F => Tryz.prog.funcs[f]? = some F ∧ (F.name == "runtime.NumGoroutine") = false) := ⟨fn288_ok, tf282_all, tf294_all⟩
noncomputable def tf300 : Tr Func := .node 300 Tryz.f300 .leaf .leaf
theorem tf300_all : tf300.All (fun f F => Tryz.prog.funcs[f]? = some F ∧ (F.name == "runtime.NumGoroutine") = false) := ⟨fn300_ok, True.intro, True.intro⟩
noncomputable def tf301 : Tr Func := .node 301 Tryz.f301 tf300 .leaf
theorem tf301_all : tf301.All (fun f F => Tryz.prog.funcs[f]? = some F ∧ (F.name == "runtime.NumGoroutine") = false) := ⟨fn301_ok, tf300_all, True.intro⟩
noncomputable def tf303 : Tr Func := .node 303 Tryz.f303 .leaf .leaf
theorem tf303_all : tf303.All (fun f F => Tryz.prog.funcs[f]? = some F ∧ (F.name == "runtime.NumGoroutine") = false) := ⟨fn303_ok, True.intro, True.intro⟩
noncomputable def tf304 : Tr Func := .node 304 Tryz.f304 tf303 .leaf
theorem tf304_all : tf304.All (fun f F => Tryz.prog.funcs[f]? = some F ∧ (F.name == "runtime.NumGoroutine") = false) := ⟨fn304_ok, tf303_all, True.intro⟩
noncomputable def tf302 : Tr Func := .node 302 Tryz.f302 tf301 tf304
theorem tf302_all : tf302.All (fun f F => Tryz.prog.funcs[f]? = some F ∧ (F.name == "runtime.NumGoroutine") = false) := ⟨fn302_ok, tf301_all, tf304_all⟩
noncomputable def tf306 : Tr Func := .node 306 Tryz.f306 .leaf .leaf
theorem tf306_all : tf306.All (fun f F => Tryz.prog.funcs[f]? = some F ∧ (F.name == "runtime.NumGoroutine") = false) := ⟨fn306_ok, True.intro, True.intro⟩
noncomputable def tf307 : Tr Func := .node 307 Tryz.f307 tf306 .leaf
theorem tf307_all : tf307.All (fun f F => Tryz.prog.funcs[f]? = some F ∧ (F.name == "runtime.NumGoroutine") = false) := ⟨fn307_ok, tf306_all, True.intro⟩
noncomputable def tf309 : Tr Func := .node 309 Tryz.f309 .leaf .leaf
theorem tf309_all : tf309.All (fun f F => Tryz.prog.funcs[f]? = some F ∧ (F.name == "runtime.NumGoroutine") = false) := ⟨fn309_ok, True.intro, True.intro⟩
noncomputable def tf310 : Tr Func := .node 310 Tryz.f310 tf309 .leaf
theorem tf310_all : tf310.All (fun f F => Tryz.prog.funcs[f]? = some F ∧ (F.name == "runtime.NumGoroutine") = false) := ⟨fn310_ok, tf309_all, True.intro⟩
noncomputable def tf308 : Tr Func := .node 308 Tryz.f308 tf307 tf310
theorem tf308_all : tf308.All (fun f F => Tryz.prog.funcs[f]? = some F ∧ (F.name == "runtime.NumGoroutine") = false) := ⟨fn308_ok, tf307_all, tf310_all⟩
noncomputable def tf305 : Tr Func := .node 305 Tryz.f305 tf302 tf308
theorem tf305_all : tf305.All (fun f F => Tryz.prog.funcs[f]? = some F ∧ (F.name == "runtime.NumGoroutine") = false) := ⟨fn305_ok, tf302_all, tf308_all⟩
noncomputable def tf312 : Tr Func := .node 312 Tryz.f312 .leaf .leaf
theorem tf312_all : tf312.All (fun f F => Tryz.prog.funcs[f]? = some F ∧ (F.name == "runtime.NumGoroutine") = false) := ⟨fn312_ok, True.intro, True.intro⟩
noncomputable def tf313 : Tr Func := .node 313 Tryz.f313 tf312 .leaf
theorem tf313_all : tf313.All (fun f F => Tryz.prog.funcs[f]? = some F ∧ (F.name == "runtime.NumGoroutine") = false) := ⟨fn313_ok, tf312_all, True.intro⟩
noncomputable def tf315 : Tr Func := .node 315 Tryz.f315 .leaf .leaf
theorem tf315_all : tf315.All (fun f F => Tryz.prog.funcs[f]? = some F ∧ (F.name == "runtime.NumGoroutine") = false) := ⟨fn315_ok, True.intro, True.intro⟩
noncomputable def tf316 : Tr Func := .node 316 Tryz.f316 tf315 .leaf
theorem tf316_all : tf316.All (fun f F => Tryz.prog.funcs[f]? = some F ∧ (F.name == "runtime.NumGoroutine") = false) := ⟨fn316_ok, tf315_all, True.intro⟩
noncomputable def tf314 : Tr Func := .node 314 Tryz.f314 tf313 tf316
theorem tf314_all : tf314.All (fun f F => Tryz.prog.funcs[f]? = some F ∧ (F.name == "runtime.NumGoroutine") = false) := ⟨fn314_ok, tf313_all, tf316_all⟩
noncomputable def tf318 : Tr Func := .node 318 Tryz.f318 .leaf .leaf
theorem tf318_all : tf318.All (fun f F => Tryz.prog.funcs[f]? = some F ∧ (F.name == "runtime.NumGoroutine") = false) := ⟨fn318_ok, True.intro, True.intro⟩
noncomputable def tf319 : Tr Func := .node 319 Tryz.f319 tf318 .leaf
theorem tf319_all : tf319.All (fun f F => Tryz.prog.funcs[f]? = some F ∧ (F.name == "runtime.NumGoroutine") = false) := ⟨fn319_ok, tf318_all, True.intro⟩
noncomputable def tf321 : Tr Func := .node 321 Tryz.f321 .leaf .leaf
theorem tf321_all : tf321.All (fun f F => Tryz.prog.funcs[f]? = some F ∧ (F.name == "runtime.NumGoroutine") = false) := ⟨fn321_ok, True.intro, True.intro⟩
noncomputable def tf320 : Tr Func := .node 320 Tryz.f320 tf319 tf321
theorem tf320_all : tf320.All (fun f F => Tryz.prog.funcs[f]? = some F ∧ (F.name == "runtime.NumGoroutine") = false) := ⟨fn320_ok, tf319_all, tf321_all⟩
noncomputable def tf317 : Tr Func := .node 317 Tryz.f317 tf314 tf320
theorem tf317_all : tf317.All (fun f F => Tryz.prog.funcs[f]? = some F ∧ (F.name == "runtime.NumGoroutine") = false) := ⟨fn317_ok, tf314_all, tf320_all⟩
noncomputable def tf311 : Tr Func := .node 311 Tryz.f311 tf305 tf317
theorem tf311_all : tf311.All (fun f F => Tryz.prog.funcs[f]? = some F ∧ (F.name == "runtime.NumGoroutine") = false) := ⟨fn311_ok, tf305_all, tf317_all⟩
noncomputable def tf299 : Tr Func := .node 299 Tryz.f299 tf288 tf311
theorem tf299_all : tf299.All (fun f F => Tryz.prog.funcs[f]? = some F ∧ (F.name == "runtime.NumGoroutine") = false) := ⟨fn299_ok, tf288_all, tf311_all⟩
noncomputable def tf323 : Tr Func := .node 323 Tryz.f323 .leaf .leaf
theorem tf323_all : tf323.All (fun f F => Tryz.prog.funcs[f]? = some F ∧ (F.name == "runtime.NumGoroutine") = false) := ⟨fn323_ok, True.intro, True.intro⟩
noncomputable def tf324 : Tr Func := .node 324 Tryz.f324 tf323 .leaf
theorem tf324_all : tf324.All (fun f F => Tryz.prog.funcs[f]? = some F ∧ (F.name == "runtime.NumGoroutine") = false) := ⟨fn324_ok, tf323_all, True.intro⟩
noncomputable def tf326 : Tr Func := .node 326 Tryz.f326 .leaf .leaf
theorem tf326_all : tf326.All (fun f F => Tryz.prog.funcs[f]? = some F ∧ (F.name == "runtime.NumGoroutine") = false) := ⟨fn326_ok, True.intro, True.intro⟩
noncomputable def tf327 : Tr Func := .node 327 Tryz.f327 tf326 .leaf
theorem tf327_all : tf327.All (fun f F => Tryz.prog.funcs[f]? = some F ∧ (F.name == "runtime.NumGoroutine") = false) := ⟨fn327_ok, tf326_all, True.intro⟩
noncomputable def tf325 : Tr Func := .node 325 Tryz.f325 tf324 tf327
theorem tf325_all : tf325.All (fun f F => Tryz.prog.funcs[f]? = some F ∧ (F.name == "runtime.NumGoroutine") = false) := ⟨fn325_ok, tf324_all, tf327_all⟩
noncomputable def tf329 : Tr Func := .node 329 Tryz.f329 .leaf .leaf
theorem tf329_all : tf329.All (fun f F => Tryz.prog.funcs[f]? = some F ∧ (F.name == "runtime.NumGoroutine") = false) := ⟨fn329_ok, True.intro, True.intro⟩
noncomputable def tf330 : Tr Func := .node 330 Tryz.f330 tf329 .leaf
theorem tf330_all : tf330.All (fun f F => Tryz.prog.funcs[f]? = some F ∧ (F.name == "runtime.NumGoroutine") = false) := ⟨fn330_ok, tf329_all, True.intro⟩
noncomputable def tf332 : Tr Func := .node 332 Tryz.f332 .leaf .leaf
theorem tf332_all : tf332.All (fun f F => Tryz.prog.funcs[f]? = some F ∧ (F.name == "runtime.NumGoroutine") = false) := ⟨fn332_ok, True.intro, True.intro⟩
noncomputable def tf333 : Tr Func := .node 333 Tryz.f333 tf332 .leaf
theorem tf333_all : tf333.All (fun f F => Tryz.prog.funcs[f]? = some F ∧ (F.name == "runtime.NumGoroutine") = false) := ⟨fn333_ok, tf332_all, True.intro⟩
noncomputable def tf331 : Tr Func := .node 331 Tryz.f331 tf330 tf333
theorem tf331_all : tf331.All (fun f F => Tryz.prog.funcs[f]? = some F ∧ (F.name == "runtime.NumGoroutine") = false) := ⟨fn331_ok, tf330_all, tf333_all⟩
noncomputable def tf328 : Tr Func := .node 328 Tryz.f328 tf325 tf331
theorem tf328_all : tf328.All (fun f F => Tryz.prog.funcs[f]? = some F ∧ (F.name == "runtime.NumGoroutine") = false) := ⟨fn328_ok, tf325_all, tf331_all⟩
noncomputable def tf335 : Tr Func := .node 335 Tryz.f335 .leaf .leaf
theorem tf335_all : tf335.All (fun f F => Tryz.prog.funcs[f]? = some F ∧ (F.name == "runtime.NumGoroutine") = false) := ⟨fn335_ok, True.intro, True.intro⟩
noncomputable def tf336 : Tr Func := .node 336 Tryz.f336 tf335 .leaf
theorem tf336_all : tf336.All (fun f F => Tryz.prog.funcs[f]? = some F ∧ (F.name == "runtime.NumGoroutine") = false) := ⟨fn336_ok, tf335_all, True.intro⟩
noncomputable def tf338 : Tr Func := .node 338 Tryz.f338 .leaf .leaf
theorem tf338_all : tf338.All (fun f F => Tryz.prog.funcs[f]? = some F ∧ (F.name == "runtime.NumGoroutine") = false) := ⟨fn338_ok, True.intro, True.intro⟩
noncomputable def tf339 : Tr Func := .node 339 Tryz.f339 tf338 .leaf
theorem tf339_all : tf339.All (fun f F => Tryz.prog.funcs[f]? = some F ∧ (F.name == "runtime.NumGoroutine") = false) := ⟨fn339_ok, tf338_all, True.intro⟩
noncomputable def tf337 : Tr Func := .node 337 Tryz.f337 tf336 tf339
theorem tf337_all : tf337.All (fun f F => Tryz.prog.funcs[f]? = some F ∧ (F.name == "runtime.NumGoroutine") = false) := ⟨fn337_ok, tf336_all, tf339_all⟩
noncomputable def tf341 : Tr Func := .node 341 Tryz.f341 .leaf .leaf
theorem tf341_all : tf341.All (fun f F => Tryz.prog.funcs[f]? = some F ∧ (F.name == "runtime.NumGoroutine") = false) := ⟨fn341_ok, True.intro, True.intro⟩
noncomputable def tf342 : Tr Func := .node 342 Tryz.f342 tf341 .leaf
theorem tf342_all : tf342.All (fun f F => Tryz.prog.funcs[f]? = some F ∧ (F.name == "runtime.NumGoroutine") = false) := ⟨fn342_ok, tf341_all, True.intro⟩
noncomputable def tf344 : Tr Func := .node 344 Tryz.f344 .leaf .leaf
theorem tf344_all : tf344.All (fun f F => Tryz.prog.funcs[f]? = some F ∧ (F.name == "runtime.NumGoroutine") = false) := ⟨fn344_ok, True.intro, True.intro⟩
noncomputable def tf343 : Tr Func := .node 343 Tryz.f343 tf342 tf344
theorem tf343_all : tf343.All (fun f F => Tryz.prog.funcs[f]? = some F ∧ (F.name == "runtime.NumGoroutine") = false) := ⟨fn343_ok, tf342_all, tf344_all⟩
noncomputable def tf340 : Tr Func := .node 340 Tryz.f340 tf337 tf343
theorem tf340_all : tf340.All (fun f F => Tryz.prog.funcs[f]? = some F ∧ (F.name == "runtime.NumGoroutine") = false) := ⟨fn340_ok, tf337_all, tf343_all⟩
noncomputable def tf334 : Tr Func := .node 334 Tryz.f334 tf328 tf340
theorem tf334_all : tf334.All (fun f F => Tryz.prog.funcs[f]? = some F ∧ (F.name == "runtime.NumGoroutine") = false) := ⟨fn334_ok, tf328_all, tf340_all⟩
noncomputable def tf346 : Tr Func := .node 346 Tryz.f346 .leaf .leaf
theorem tf346_all : tf346.All (fun f F => Tryz.prog.funcs[f]? = some F ∧ (F.name == "runtime.NumGoroutine") = false) := ⟨fn346_ok, True.intro, True.intro⟩
noncomputable def tf347 : Tr Func := .node 347 Tryz.f347 tf346 .leaf
theorem tf347_all : tf347.All (fun f F => Tryz.prog.funcs[f]? = some F ∧ (F.name == "runtime.NumGoroutine") = false) := ⟨fn347_ok, tf346_all, True.intro⟩
noncomputable def tf349 : Tr Func := .node 349 Tryz.f349 .leaf .leaf
theorem tf349_all : tf349.All (fun f F => Tryz.prog.funcs[f]? = some F ∧ (F.name == "runtime.NumGoroutine") = false) := ⟨fn349_ok, True.intro, True.intro⟩
noncomputable def tf350 : Tr Func := .node 350 Tryz.f350 tf349 .leaf
theorem tf350_all : tf350.All (fun f F => Tryz.prog.funcs[f]? = some F ∧ (F.name == "runtime.NumGoroutine") = false) := ⟨fn350_ok, tf349_all, True.intro⟩
noncomputable def tf348 : Tr Func := .node 348 Tryz.f348 tf347 tf350
theorem tf348_all : tf348.All (fun f F => Tryz.prog.funcs[f]? = some F ∧ (F.name == "runtime.NumGoroutine") = false) := ⟨fn348_ok, tf347_all, tf350_all⟩
noncomputable def tf352 : Tr Func := .node 352 Tryz.f352 .leaf .leaf
theorem tf352_all : tf352.All (fun f F => Tryz.prog.funcs[f]? = some F ∧ (F.name == "runtime.NumGoroutine") = false) := ⟨fn352_ok, True.intro, True.intro⟩
noncomputable def tf353 : Tr Func := .node 353 Tryz.f353 tf352 .leaf
theorem tf353_all : tf353.All (fun f F => Tryz.prog.funcs[f]? = some F ∧ (F.name == "runtime.NumGoroutine") = false) := ⟨fn353_ok, tf352_all, True.intro⟩
noncomputable def tf355 : Tr Func := .node 355 Tryz.f355 .leaf .leaf
theorem tf355_all : tf355.All (fun f F => Tryz.prog.funcs[f]? = some F ∧ (F.name == "runtime.NumGoroutine") = false) := ⟨fn355_ok, True.intro, True.intro⟩
noncomputable def tf354 : Tr Func := .node 354 Tryz.f354 tf353 tf355
theorem tf354_all : tf354.All (fun f F => Tryz.prog.funcs[f]? = some F ∧ (F.name == "runtime.NumGoroutine") = false) := ⟨fn354_ok, tf353_all, tf355_all⟩
noncomputable def tf351 : Tr Func := .node 351 Tryz.f351 tf348 tf354
theorem tf351_all : tf351.All (fun f F => Tryz.prog.funcs[f]? = some F ∧ (F.name == "runtime.NumGoroutine") = false) := ⟨fn351_ok, tf348_all, tf354_all⟩
noncomputable def tf357 : Tr Func := .node 357 Tryz.f357 .leaf .leaf
theorem tf357_all : tf357.All (fun f F => Tryz.prog.funcs[f]? = some F ∧ (F.name == "runtime.NumGoroutine") = false) := ⟨fn357_ok, True.intro, True.intro⟩
noncomputable def tf358 : Tr Func := .node 358 Tryz.f358 tf357 .leaf
theorem tf358_all : tf358.All (fun f F => Tryz.prog.funcs[f]? = some F ∧ (F.name == "runtime.NumGoroutine") = false) := ⟨fn358_ok, tf357_all, True.intro⟩
noncomputable def tf360 : Tr Func := .node 360 Tryz.f360 .leaf .leaf
theorem tf360_all : tf360.All (fun f F => Tryz.prog.funcs[f]? = some F ∧ (F.name == "runtime.NumGoroutine") = false) := ⟨fn360_ok, True.intro, True.intro⟩
noncomputable def tf361 : Tr Func := .node 361 Tryz.f361 tf360 .leaf
theorem tf361_all : tf361.All (fun f F => Tryz.prog.funcs[f]? = some F ∧ (F.name == "runtime.NumGoroutine") = false) := ⟨fn361_ok, tf360_all, True.intro⟩
noncomputable def tf359 : Tr Func := .node 359 Tryz.f359 tf358 tf361
theorem tf359_all : tf359.All (fun f F => Tryz.prog.funcs[f]? = some F ∧ (F.name == "runtime.NumGoroutine") = false) := ⟨fn359_ok, tf358_all, tf361_all⟩
noncomputable def tf363 : Tr Func := .node 363 Tryz.f363 .leaf .leaf
theorem tf363_all : tf363.All (fun f F => Tryz.prog.funcs[f]? = some F ∧ (F.name == "runtime.NumGoroutine") = false) := ⟨fn363_ok, True.intro, True.intro⟩
noncomputable def tf365 : Tr Func := .node 365 Tryz.f365 tf363 .leaf
theorem tf365_all : tf365.All (fun f F => Tryz.prog.funcs[f]? = some F ∧ (F.name == "runtime.NumGoroutine") = false) := ⟨fn365_ok, tf363_all, True.intro⟩
noncomputable def tf368 : Tr Func := .node 368 Tryz.f368 .leaf .leaf
theorem tf368_all : tf368.All (fun f F => Tryz.prog.funcs[f]? = some F ∧ (F.name == "runtime.NumGoroutine") = false) := ⟨fn368_ok, True.intro, True.intro⟩
noncomputable def tf366 : Tr Func := .node 366 Tryz.f366 tf365 tf368
theorem tf366_all : tf366.All (fun f F => Tryz.prog.funcs[f]? = some F ∧ (F.name == "runtime.NumGoroutine") = false) := ⟨fn366_ok, tf365_all, tf368_all⟩
noncomputable def tf362 : Tr Func := .node 362 Tryz.f362 tf359 tf366
theorem tf362_all : tf362.All (fun f F => Tryz.prog.funcs[f]? = some F ∧ (F.name == "runtime.NumGoroutine") = false) := ⟨fn362_ok, tf359_all, tf366_all⟩
noncomputable def tf356 : Tr Func := .node 356 Tryz.f356 tf351 tf362
theorem tf356_all : tf356.All (fun f F => Tryz.prog.funcs[f]? = some F ∧ (F.name == "runtime.NumGoroutine") = false) := ⟨fn356_ok, tf351_all, tf362_all⟩
noncomputable def tf345 : Tr Func := .node 345 Tryz.f345 tf334 tf356
theorem tf345_all : tf345.All (fun f F => Tryz.prog.funcs[f]? = some F ∧ (F.name == "runtime.NumGoroutine") = false) := ⟨fn345_ok, tf334_all, tf356_all⟩
noncomputable def tf322 : Tr Func := .node 322 Tryz.f322 tf299 tf345
theorem tf322_all : tf322.All (fun f F => Tryz.prog.funcs[f]? = some F ∧ (F.name == "runtime.NumGoroutine") = false) := ⟨fn322_ok, tf299_all, tf345_all⟩
noncomputable def tf276 : Tr Func := .node 276 Tryz.f276 tf231 tf322
theorem tf276_all : tf276.All (fun f F => Tryz.prog.funcs[f]? = some F ∧ (F.name == "runtime.NumGoroutine") = false) := ⟨fn276_ok, tf231_all, tf322_all⟩
noncomputable def tf185 : Tr Func := .node 185 Tryz.f185 tf94 tf276
theorem tf185_all : tf185.All (fun f F => Tryz.prog.funcs[f]? = some F ∧ (F.name == "runtime.NumGoroutine") = false) := ⟨fn185_ok, tf94_all, tf276_all⟩
noncomputable def gl : Gl := ⟨fun t => tt110.find t, fun f => tf185.find f, fun _ => none⟩
theorem gl_ok : GOK gl Tryz.prog := GOK.of tt110_all tf185_all
noncomputable def cfg : Cfg := ⟨gl, 52, 43, 100000, fun call nt => drawD gl call nt⟩
end Go.Proofs.YtdhcgankmhpgeaaGreat.M
/- M, the twenty-sixth text: Catch, and the evaluator over this program. -/
namespace Go.Proofs.YtdhcgankmhpgeaaGreat.M
open Go Go.RowKit
set_option linter.unusedVariables false
set_option linter.unusedSimpArgs false
theorem catch_back (w : World) (pv : Value) : CallsD Tryz.prog 52 #[pv] .returning w fun e u w' => (∃ v, e = .returned v) ∧ u = .returning ∧ Below w.heap.size w w' := by
  refine callsD_of_wpS Tryz.func52 rfl fun c₀ cs hu => ?_
  apply wpS_seq
  apply wpS_region
  simp [wpOpsS, go_sem, recoverD, hu, Tryz.ntmps52, Exit.thenS]
  refine wpS_of_wp (wp_block ?_)
  have e : ∀ w : World, (binOp BinOp.eql 20 .nilIface .nilIface).run Tryz.prog w = .ok (.bool true) w := fun _ => by kernel_rfl
  go_wp2
  cases c₀
  simp_all [bodyPostS, results, Tryz.results52, Below.refl]
theorem catch_pan (w w1 : World) (pv : Value) (k : IntKind) (n : Int) (hst : (Instr.storeAt 43 pv (.int k n)).run Tryz.prog w = .ok () w1) :
    CallsD Tryz.prog 52 #[pv] (.panicking [{ v := .iface 43 (.int k n), recovered := false }]) w fun e u w' => (∃ v, e = .returned v) ∧ u = .panicking [{ v := .iface 43 (.int k n), recovered := true }] ∧ Below w1.heap.size w1 w' := by
  refine callsD_of_wpS Tryz.func52 rfl fun c₀ cs hu => ?_
  apply wpS_seq
  apply wpS_region
  simp [wpOpsS, go_sem, recoverD, hu, Tryz.ntmps52, Exit.thenS]
  refine wpS_of_wp (wp_block ?_)
  have e1 : ∀ w : World, (binOp BinOp.eql 20 (.iface 43 (.int k n)) .nilIface).run Tryz.prog w = .ok (.bool false) w := fun _ => by kernel_rfl
  have e2 : ∀ w : World, (Instr.typeAssert (.iface 43 (.int k n)) 20 43 true).run Tryz.prog w = .ok (.tuple #[.int k n, .bool true]) w := fun _ => by kernel_rfl
  repeat (apply wp_seq; apply wp_region)
  simp [wpOps, go_sem, Exit.then, e1, e2]
  repeat refine Or.inl ?_
  refine (wp_cond (t := false) (by simp [Act.eval, Array.replicate]) ?_)
  simp only [Bool.false_eq_true, if_false]
  apply wp_seq
  apply wp_region
  simp [wpOps, go_sem, Exit.then, e2]
  repeat refine Or.inl ?_
  refine (wp_cond (t := true) (by simp [Act.eval, Array.replicate]) ?_)
  simp only [if_true]
  apply wp_seq
  apply wp_region
  simp [wpOps, go_sem, Exit.then]
  repeat refine Or.inl ?_
  apply wp_region
  have hpv : ∃ a, pv = .pointer (some a) := by
    cases pv <;> simp only [Instr.storeAt, Instr.sureAddr, Sem.run_bind, run_stuck, Result.andThen_halt] at hst <;> first | (cases hst; done) | skip
    rename_i a
    cases a with
    | none => simp only [run_stuck, Result.andThen_halt] at hst; cases hst
    | some a => exact ⟨a, rfl⟩
  obtain ⟨ad, rfl⟩ := hpv
  simp [wpOps, Region.wanted, Exit.inBlock, Oper.wp, Oper.upon, execOp, List.range, List.range.loop, Act.put, Act.eval, Array.replicate, hst, Sem.run_bind, Sem.run_pure, Result.andThen_ok]
  repeat refine Or.inl ?_
  clear hst e1 e2
  cases c₀
  simp_all [bodyPostS, results, Tryz.results52, Below.refl]
theorem catch_ok : CatchOK Tryz.prog 52 43 where
  fn := ⟨_, Tryz.func52, rfl, fn52_ok.2⟩
  back := catch_back
  pan := catch_pan
theorem cfg_ok : CfgOK cfg Tryz.prog where
  G := gl_ok
  cat := catch_ok
  pu := fun f p h => by cases h
  draw := fun call hc nt => drawD_ok (by kernel_rfl) gl_ok hc
end Go.Proofs.YtdhcgankmhpgeaaGreat.M
/- N, the first text: calls that are known already. -/
namespace Go.Proofs.YtdhcgankmhpgeaaGreat.M
open Go Go.RowKit
set_option linter.unusedVariables false
set_option linter.unusedSimpArgs false
set_option linter.constructorNameAsVariable false
/-! equal, by looking -/
def eqInt : Int → Int → Bool
  | .ofNat a, .ofNat b => Nat.beq a b
  | .negSucc a, .negSucc b => Nat.beq a b
  | _, _ => false
theorem eqInt_ok : ∀ {a b : Int}, eqInt a b = true → a = b
  | .ofNat a, .ofNat b, h => congrArg _ (Nat.eq_of_beq_eq_true h)
  | .negSucc a, .negSucc b, h => congrArg _ (Nat.eq_of_beq_eq_true h)
  | .ofNat a, .negSucc b, h => by cases h
  | .negSucc a, .ofNat b, h => by cases h
def eqBool : Bool → Bool → Bool
  | true, true => true
  | false, false => true
  | _, _ => false
theorem eqBool_ok : ∀ {a b : Bool}, eqBool a b = true → a = b
  | true, true, _ => rfl
  | false, false, _ => rfl
  | true, false, h => by cases h
  | false, true, h => by cases h
def eqStr : List UInt8 → List UInt8 → Bool
  | [], [] => true
  | x :: xs, y :: ys => Nat.beq x.toNat y.toNat && eqStr xs ys
  | _, _ => false
theorem eqStr_ok : ∀ {a b : List UInt8}, eqStr a b = true → a = b
  | [], [], _ => rfl
  | x :: xs, y :: ys, h => by
    simp only [eqStr, Bool.and_eq_true] at h
    rw [UInt8.toNat_inj.1 (Nat.eq_of_beq_eq_true h.1), eqStr_ok h.2]
  | [], _ :: _, h => by cases h
  | _ :: _, [], h => by cases h
def kindNo : IntKind → Nat
  | .i8 => 0 | .u8 => 1 | .i16 => 2 | .u16 => 3 | .i32 => 4 | .u32 => 5 | .i64 => 6 | .u64 => 7
theorem kindNo_ok {a b : IntKind} (h : Nat.beq (kindNo a) (kindNo b) = true) : a = b := by
  cases a <;> cases b <;> first | rfl | (exfalso; revert h; decide)
mutual
def eqAV : AV → AV → Bool
  | .int k a, .int l b => Nat.beq (kindNo k) (kindNo l) && eqInt a b
  | .bool a, .bool b => eqBool a b
  | .str a, .str b => eqStr a b
  | .sl s a, .sl t b => Nat.beq s t && eqAE a b
  | .nils, .nils => true
  | .nilp, .nilp => true
  | .nilfn, .nilfn => true
  | .nilif, .nilif => true
  | .nilm, .nilm => true
  | .ep a, .ep b => eqAL a b
  | .fn f a, .fn g b => Nat.beq f g && eqAL a b
  | .ifc t a, .ifc u b => Nat.beq t u && eqAV a b
  | .agg a, .agg b => eqAL a b
  | .tup a, .tup b => eqAL a b
  | .ptr a o, .ptr b p => Nat.beq a b && Nat.beq o p
  | .rp a i o, .rp b j p => Nat.beq a b && Nat.beq i j && Nat.beq o p
  | .row a o n, .row b p m => Nat.beq a b && Nat.beq o p && Nat.beq n m
  | .mp a, .mp b => Nat.beq a b
  | .undef, .undef => true
  | _, _ => false
def eqAL : List AV → List AV → Bool
  | [], [] => true
  | x :: xs, y :: ys => eqAV x y && eqAL xs ys
  | _, _ => false
def eqAE : List (List AV) → List (List AV) → Bool
  | [], [] => true
  | x :: xs, y :: ys => eqAL x y && eqAE xs ys
  | _, _ => false
end
mutual
theorem eqAV_ok : ∀ (a b : AV), eqAV a b = true → a = b
  | .int k a, b, h => by
    cases b <;> simp only [eqAV, Bool.and_eq_true] at h <;> first | (cases h; done) | skip
    rw [kindNo_ok h.1, eqInt_ok h.2]
  | .bool a, b, h => by
    cases b <;> simp only [eqAV] at h <;> first | (cases h; done) | skip
    rw [eqBool_ok h]
  | .str a, b, h => by
    cases b <;> simp only [eqAV] at h <;> first | (cases h; done) | skip
    rw [eqStr_ok h]
  | .sl s a, b, h => by
    cases b <;> simp only [eqAV, Bool.and_eq_true] at h <;> first | (cases h; done) | skip
    rw [Nat.eq_of_beq_eq_true h.1, eqAE_ok _ _ h.2]
  | .nils, b, h => by cases b <;> simp only [eqAV] at h <;> first | rfl | (cases h; done)
  | .nilp, b, h => by cases b <;> simp only [eqAV] at h <;> first | rfl | (cases h; done)
  | .nilfn, b, h => by cases b <;> simp only [eqAV] at h <;> first | rfl | (cases h; done)
  | .nilif, b, h => by cases b <;> simp only [eqAV] at h <;> first | rfl | (cases h; done)
  | .nilm, b, h => by cases b <;> simp only [eqAV] at h <;> first | rfl | (cases h; done)
  | .ep a, b, h => by
    cases b <;> simp only [eqAV] at h <;> first | (cases h; done) | skip
    rw [eqAL_ok _ _ h]
  | .fn f a, b, h => by
    cases b <;> simp only [eqAV, Bool.and_eq_true] at h <;> first | (cases h; done) | skip
    rw [Nat.eq_of_beq_eq_true h.1, eqAL_ok _ _ h.2]
  | .ifc t a, b, h => by
    cases b <;> simp only [eqAV, Bool.and_eq_true] at h <;> first | (cases h; done) | skip
    rw [Nat.eq_of_beq_eq_true h.1, eqAV_ok _ _ h.2]
  | .agg a, b, h => by
    cases b <;> simp only [eqAV] at h <;> first | (cases h; done) | skip
    rw [eqAL_ok _ _ h]
  | .tup a, b, h => by
    cases b <;> simp only [eqAV] at h <;> first | (cases h; done) | skip
    rw [eqAL_ok _ _ h]
  | .ptr a o, b, h => by
    cases b <;> simp only [eqAV, Bool.and_eq_true] at h <;> first | (cases h; done) | skip
    rw [Nat.eq_of_beq_eq_true h.1, Nat.eq_of_beq_eq_true h.2]
  | .rp a i o, b, h => by
    cases b <;> simp only [eqAV, Bool.and_eq_true] at h <;> first | (cases h; done) | skip
    rw [Nat.eq_of_beq_eq_true h.1.1, Nat.eq_of_beq_eq_true h.1.2, Nat.eq_of_beq_eq_true h.2]
  | .row a o n, b, h => by
    cases b <;> simp only [eqAV, Bool.and_eq_true] at h <;> first | (cases h; done) | skip
    rw [Nat.eq_of_beq_eq_true h.1.1, Nat.eq_of_beq_eq_true h.1.2, Nat.eq_of_beq_eq_true h.2]
  | .mp a, b, h => by
    cases b <;> simp only [eqAV] at h <;> first | (cases h; done) | skip
    rw [Nat.eq_of_beq_eq_true h]
  | .undef, b, h => by cases b <;> simp only [eqAV] at h <;> first | rfl | (cases h; done)
theorem eqAL_ok : ∀ (a b : List AV), eqAL a b = true → a = b
  | [], [], _ => rfl
  | x :: xs, y :: ys, h => by
    simp only [eqAL, Bool.and_eq_true] at h
    rw [eqAV_ok _ _ h.1, eqAL_ok _ _ h.2]
  | [], _ :: _, h => by simp [eqAL] at h
  | _ :: _, [], h => by simp [eqAL] at h
theorem eqAE_ok : ∀ (a b : List (List AV)), eqAE a b = true → a = b
  | [], [], _ => rfl
  | x :: xs, y :: ys, h => by
    simp only [eqAE, Bool.and_eq_true] at h
    rw [eqAL_ok _ _ h.1, eqAE_ok _ _ h.2]
  | [], _ :: _, h => by simp [eqAE] at h
  | _ :: _, [], h => by simp [eqAE] at h
end
def eqM : List (List UInt8 × AV) → List (List UInt8 × AV) → Bool
  | [], [] => true
  | (s, x) :: xs, (t, y) :: ys => eqStr s t && eqAV x y && eqM xs ys
  | _, _ => false
theorem eqM_ok : ∀ (a b : List (List UInt8 × AV)), eqM a b = true → a = b
  | [], [], _ => rfl
  | (s, x) :: xs, (t, y) :: ys, h => by
    simp only [eqM, Bool.and_eq_true] at h
    rw [eqStr_ok h.1.1, eqAV_ok _ _ h.1.2, eqM_ok _ _ h.2]
  | [], _ :: _, h => by simp [eqM] at h
  | _ :: _, [], h => by simp [eqM] at h
def eqO : Obj' → Obj' → Bool
  | .var t a, .var u b => Nat.beq t u && eqAL a b
  | .arr t s a, .arr u r b => Nat.beq t u && Nat.beq s r && eqAE a b
  | .mapo a, .mapo b => eqM a b
  | .dead, .dead => true
  | _, _ => false
theorem eqO_ok : ∀ (a b : Obj'), eqO a b = true → a = b
  | .var t a, b, h => by
    cases b <;> simp only [eqO, Bool.and_eq_true] at h <;> first | (cases h; done) | skip
    rw [Nat.eq_of_beq_eq_true h.1, eqAL_ok _ _ h.2]
  | .arr t s a, b, h => by
    cases b <;> simp only [eqO, Bool.and_eq_true] at h <;> first | (cases h; done) | skip
    rw [Nat.eq_of_beq_eq_true h.1.1, Nat.eq_of_beq_eq_true h.1.2, eqAE_ok _ _ h.2]
  | .mapo a, b, h => by
    cases b <;> simp only [eqO] at h <;> first | (cases h; done) | skip
    rw [eqM_ok _ _ h]
  | .dead, b, h => by cases b <;> simp only [eqO] at h <;> first | rfl | (cases h; done)
def eqOs : List Obj' → List Obj' → Bool
  | [], [] => true
  | x :: xs, y :: ys => eqO x y && eqOs xs ys
  | _, _ => false
theorem eqOs_ok : ∀ (a b : List Obj'), eqOs a b = true → a = b
  | [], [], _ => rfl
  | x :: xs, y :: ys, h => by
    simp only [eqOs, Bool.and_eq_true] at h
    rw [eqO_ok _ _ h.1, eqOs_ok _ _ h.2]
  | [], _ :: _, h => by simp [eqOs] at h
  | _ :: _, [], h => by simp [eqOs] at h
/-! calls that are known -/
structure Ent where
  f : Nat
  args : List AV
  objs : List Obj'
  r : AE
  objs' : List Obj'
def memo : List Ent → CallF
  | [], _, _, _ => none
  | e :: l, f, args, objs => if Nat.beq f e.f && eqAL args e.args && eqOs objs e.objs then some (e.r, e.objs') else memo l f args objs
/-- One function at one input. -/
def FnAt (P : Program) (f : Nat) (args : List AV) (objs : List Obj') (r : AE) (objs' : List Obj') : Prop :=
  (∃ fn, P.funcs[f]? = some fn ∧ fn.body.isNone = false ∧ (fn.name == "runtime.NumGoroutine") = false) ∧ ∀ w I pl vs, HR w I pl (numbered 0 objs) → (∀ b, objs.length ≤ b → pl b = none) → RepL w I pl args vs →
    Calls P f vs.toArray w fun e w' => ∃ I' pl', Stp w I pl (numbered 0 objs) w' I' pl' (numbered 0 objs') ∧ HR w' I' pl' (numbered 0 objs') ∧ EndOK w' I' pl' r e ∧ ∀ b, b < objs.length → pl' b = pl b
theorem memo_ok {P : Program} : ∀ {l : List Ent}, (∀ e ∈ l, FnAt P e.f e.args e.objs e.r e.objs') → FnOK P (memo l)
  | [], _, f, args, objs, r, objs', h => by cases h
  | e :: l, hl, f, args, objs, r, objs', h => by
    unfold memo at h
    split at h
    · rename_i hc
      simp only [Bool.and_eq_true] at hc
      have e1 := Nat.eq_of_beq_eq_true hc.1.1
      have e2 := eqAL_ok _ _ hc.1.2
      have e3 := eqOs_ok _ _ hc.2
      subst e1 e2 e3
      injection h with h
      injection h with h1 h2
      subst h1 h2
      exact hl e (by simp)
    · exact memo_ok (fun x hx => hl x (by simp [hx])) f args objs r objs' h
/-- One call, by what calls answer. -/
def ccall (C : Cfg) (call : CallF) : CallF := fun f args objs => match C.G.fn f with
  | none => none
  | some F => match F.body with
    | none => none
    | some c => match C.G.pu f with
      | some p => if objs.isEmpty then (p args).map (·, []) else none
      | none =>
        if args.length ≤ F.ntmps then
          exec ⟨C.G, call, F.ntmps, C.fuel, C.drawR call F.ntmps⟩ c ⟨numbered 0 args, numbered 0 objs, objs.length, []⟩ (finish C.G C.catchF C.errT F objs.length)
        else none
section
variable {P : Program} {c : Ctx} {w w' : World} {I I' : Nat → Prop} {pl pl' : Plan} {hp : Hp}
theorem ccall_ok {C : Cfg} (hC : CfgOK C P) {call : CallF} (hc : FnOK P call) : FnOK P (ccall C call) := by
    intro f args objs r objs' h
    unfold ccall at h
    split at h
    · cases h
    rename_i F hF
    obtain ⟨hf, hname⟩ := hC.G.fn f F hF
    split at h
    · cases h
    rename_i code hb
    refine ⟨⟨F, hf, by rw [hb]; rfl, hname⟩, ?_⟩
    intro w I pl vs hr hpl ha
    split at h
    · rename_i p hp
      split at h
      · rename_i he
        have he' : objs = [] := by simpa using he
        subst he'
        cases hpa : p args with
        | none => simp [hpa] at h
        | some r2 =>
          simp [hpa] at h
          obtain ⟨rfl, rfl⟩ := h
          refine (hC.pu f p hp args r2 hpa w I pl vs (by simpa [numbered] using hr) (fun b => hpl b (Nat.zero_le _)) ha).mono ?_
          rintro e w' ⟨I', pl', k1, k2, k3⟩
          exact ⟨I', pl', by simpa [numbered] using k1, by simpa [numbered] using k2, k3, fun b hb => by simp at hb⟩
      · cases h
    · split at h
      · rename_i hlen
        let c : Ctx := ⟨w, I, pl, numbered 0 objs, objs.length⟩
        have hvl := repL_length ha
        have hsr : SR c F.ntmps (numbered 0 args) (numbered 0 objs) [] { tmps := vs.toArray ++ Array.replicate (F.ntmps - vs.toArray.size) undef, defers := [] } w I pl := by
          refine ⟨hr, ?_, ?_, Stp.refl _ _ _ _, fun _ _ => rfl, by simp [DfOK]⟩
          · intro t x hx
            rw [look_num] at hx
            obtain ⟨v, h1, h2⟩ := repL_get ha hx
            refine ⟨v, ?_, h2⟩
            have hlt : t < vs.length := (List.getElem?_eq_some_iff.1 h1).1
            rw [Array.getElem?_append_left (by simpa using hlt)]
            simpa using h1
          · simp
            omega
        have hss : SS c F.ntmps ⟨numbered 0 args, numbered 0 objs, objs.length, []⟩ { tmps := vs.toArray ++ Array.replicate (F.ntmps - vs.toArray.size) undef, defers := [] } w I pl := by
          refine ⟨hsr, fun b hb => ⟨hpl b hb, ?_⟩, Nat.le_refl _⟩
          rw [look_num]
          exact List.getElem?_eq_none hb
        have hx := exec_ok (c := c) (E := ⟨C.G, call, F.ntmps, C.fuel, C.drawR (call) F.ntmps⟩) hC.G (hc) (hC.draw _ (hc) _) code _ _ _ _ _ I pl h hss
        have hcalls := calls_of_wp_defers hf hb (R := fun e w' => Post c r objs' e w') (wp_mono hx (fun e a w' hat => finish_ok hC.G hC.cat (c := c) hpl hat))
        refine hcalls.mono ?_
        rintro e w' ⟨I', pl', k1, k2, k3, k4⟩
        exact ⟨I', pl', k1, k2, k3, k4⟩
      · cases h
end
def bcall (C : Cfg) (call : CallF) : Nat → CallF
  | 0, _, _, _ => none
  | n + 1, f, args, objs => match call f args objs with
    | some r => some r
    | none => ccall C (bcall C call n) f args objs
theorem bcall_ok {P : Program} {C : Cfg} (hC : CfgOK C P) {call : CallF} (hc : FnOK P call) : ∀ n, FnOK P (bcall C call n)
  | 0, f, args, objs, r, objs', h => by cases h
  | n + 1, f, args, objs, r, objs', h => by
    unfold bcall at h
    split at h
    · rename_i r2 hr
      injection h with h
      subst h
      exact hc f args objs r objs' hr
    · exact ccall_ok hC (bcall_ok hC hc n) f args objs r objs' h
theorem at_ok {P : Program} {C : Cfg} (hC : CfgOK C P) {l : List Ent} (hl : ∀ e ∈ l, FnAt P e.f e.args e.objs e.r e.objs') {e : Ent} {n : Nat} (h : ccall C (bcall C (memo l) n) e.f e.args e.objs = some (e.r, e.objs')) : ∀ x ∈ e :: l, FnAt P x.f x.args x.objs x.r x.objs' := by
  intro x hx
  rcases List.mem_cons.1 hx with rfl | hx
  · exact ccall_ok hC (bcall_ok hC (memo_ok hl) n) _ _ _ _ _ h
  · exact hl x hx
end Go.Proofs.YtdhcgankmhpgeaaGreat.M
