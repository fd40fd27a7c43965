/-
  NARROWER THAN 'FOR EVERY INPUT', by the rows' own cells (each row's printed sentence says how): StaticEvals: loops · StaticCalls: loops · StaticOps: loops · StaticFolds: loops · StaticStores: loops · StaticTypes: loops · StaticAgain: loops · StaticFolded: loops · StaticKept: loops.
  DERIVED. THE GIVEN ROWS OF THIS SEAT. 10 by the template 'for every input the law returns true; each argument reads behind the call as it read before'; 0 by the template 'total and deterministic' (their statements: YtdhcgankmhpgeaaGreatTotals.lean).
  GIVEN WITH THE SEED: the statements are not yours to turn. If you find one false, say at which input.
  Laid BY PROGRAM, IN A SANDBOX (cutbox-rows.mjs): the forced cells as the released guide's own fill.sh prints them over the translation e6208261e28c361b… (all of the seat's roots in one cut). By AI agents, Wed Nov 11 2026. No macro, syntax, notation, axiom, sorry.
-/
import Derived.Test.YtdhcgankmhpgeaaGreatChecked
import GoSem.Claim
import GoSem.ClaimJoined
import GoSem.ClaimMapViews
import Derived.JoinedTies
import Derived.KernelRfl
namespace Go.Proofs.YtdhcgankmhpgeaaGreat
/- THE CELL 'sum', in the pinned program and in every row, IS THE sha256 OF THE DUMP (.gsa) THAT YtdhcgankmhpgeaaGreatProg.lean LOADS. Nothing in Lean hashes anything: it is a label: what it is worth is what the hold of that sum in a sandbox is worth. -/
noncomputable def Tryz.pinned : Pinned := { name := "ytdhcgankmhpgeaagreat", sum := "e6208261e28c361bac48fe00793821cca3ce49dcbac75aa84b575e347101adf0", checked := Tryz.checked }
namespace Rows
def none {H : Type} : Left H := { results := [], args := [] }

/-- 'netwrightlaw11.StaticEvals': WHATEVER THE INPUT: true; the input reads as it did. -/
def staticEvalsSpec : ChangeSpec := { name := "staticEvals", fn := fun _ => fun
  | [d1, d2] => { results := [.lit (.bool true)], args := [d1, d2] }
  | _ => none }
def staticEvalsRow : OpenClaim := { program := "ytdhcgankmhpgeaagreat", sum := "e6208261e28c361bac48fe00793821cca3ce49dcbac75aa84b575e347101adf0", func := "netwright/netwrightlaw11.StaticEvals", spec := "staticEvals", inPlace := ["internal/bytealg.IndexByteString", "internal/bytealg.IndexString"], unfollowed := true, recurses := true, named := ["internal/bytealg.MaxLen"], loops := true, apart := false }
def StaticEvalsSaid : Prop := staticEvalsRow.holds Tryz.pinned (OpenSpec.ofChange staticEvalsSpec)

/-- ITS FALSE NEIGHBOUR: 'it returns false'. Refute it at one input. -/
def staticEvalsWrong : ChangeSpec := { name := "staticEvals", fn := fun _ => fun
  | [d1, d2] => { results := [.lit (.bool false)], args := [d1, d2] }
  | _ => none }
def StaticEvalsWrongFalsely : Prop := staticEvalsRow.holds Tryz.pinned (OpenSpec.ofChange staticEvalsWrong)

/-- 'netwrightlaw11.StaticCalls': WHATEVER THE INPUT: true; the input reads as it did. -/
def staticCallsSpec : ChangeSpec := { name := "staticCalls", fn := fun _ => fun
  | [d1, d2, d3] => { results := [.lit (.bool true)], args := [d1, d2, d3] }
  | _ => none }
def staticCallsRow : OpenClaim := { program := "ytdhcgankmhpgeaagreat", sum := "e6208261e28c361bac48fe00793821cca3ce49dcbac75aa84b575e347101adf0", func := "netwright/netwrightlaw11.StaticCalls", spec := "staticCalls", inPlace := ["internal/bytealg.IndexByteString", "internal/bytealg.IndexString"], unfollowed := true, recurses := true, named := ["internal/bytealg.MaxLen"], loops := true, apart := false }
def StaticCallsSaid : Prop := staticCallsRow.holds Tryz.pinned (OpenSpec.ofChange staticCallsSpec)

/-- ITS FALSE NEIGHBOUR: 'it returns false'. Refute it at one input. -/
def staticCallsWrong : ChangeSpec := { name := "staticCalls", fn := fun _ => fun
  | [d1, d2, d3] => { results := [.lit (.bool false)], args := [d1, d2, d3] }
  | _ => none }
def StaticCallsWrongFalsely : Prop := staticCallsRow.holds Tryz.pinned (OpenSpec.ofChange staticCallsWrong)

/-- 'netwrightlaw11.StaticOps': WHATEVER THE INPUT: true; the input reads as it did. -/
def staticOpsSpec : ChangeSpec := { name := "staticOps", fn := fun _ => fun
  | [d1, d2, d3] => { results := [.lit (.bool true)], args := [d1, d2, d3] }
  | _ => none }
def staticOpsRow : OpenClaim := { program := "ytdhcgankmhpgeaagreat", sum := "e6208261e28c361bac48fe00793821cca3ce49dcbac75aa84b575e347101adf0", func := "netwright/netwrightlaw11.StaticOps", spec := "staticOps", inPlace := ["internal/bytealg.IndexByteString", "internal/bytealg.IndexString"], unfollowed := true, recurses := true, named := ["internal/bytealg.MaxLen"], loops := true, apart := false }
def StaticOpsSaid : Prop := staticOpsRow.holds Tryz.pinned (OpenSpec.ofChange staticOpsSpec)

/-- ITS FALSE NEIGHBOUR: 'it returns false'. Refute it at one input. -/
def staticOpsWrong : ChangeSpec := { name := "staticOps", fn := fun _ => fun
  | [d1, d2, d3] => { results := [.lit (.bool false)], args := [d1, d2, d3] }
  | _ => none }
def StaticOpsWrongFalsely : Prop := staticOpsRow.holds Tryz.pinned (OpenSpec.ofChange staticOpsWrong)

/-- 'netwrightlaw11.StaticFolds': WHATEVER THE INPUT: true; the input reads as it did. -/
def staticFoldsSpec : ChangeSpec := { name := "staticFolds", fn := fun _ => fun
  | [d1, d2] => { results := [.lit (.bool true)], args := [d1, d2] }
  | _ => none }
def staticFoldsRow : OpenClaim := { program := "ytdhcgankmhpgeaagreat", sum := "e6208261e28c361bac48fe00793821cca3ce49dcbac75aa84b575e347101adf0", func := "netwright/netwrightlaw11.StaticFolds", spec := "staticFolds", inPlace := ["internal/bytealg.IndexByteString", "internal/bytealg.IndexString"], unfollowed := true, recurses := true, named := ["internal/bytealg.MaxLen"], loops := true, apart := false }
def StaticFoldsSaid : Prop := staticFoldsRow.holds Tryz.pinned (OpenSpec.ofChange staticFoldsSpec)

/-- ITS FALSE NEIGHBOUR: 'it returns false'. Refute it at one input. -/
def staticFoldsWrong : ChangeSpec := { name := "staticFolds", fn := fun _ => fun
  | [d1, d2] => { results := [.lit (.bool false)], args := [d1, d2] }
  | _ => none }
def StaticFoldsWrongFalsely : Prop := staticFoldsRow.holds Tryz.pinned (OpenSpec.ofChange staticFoldsWrong)

/-- 'netwrightlaw11.StaticStores': WHATEVER THE INPUT: true; the input reads as it did. -/
def staticStoresSpec : ChangeSpec := { name := "staticStores", fn := fun _ => fun
  | [d1, d2, d3] => { results := [.lit (.bool true)], args := [d1, d2, d3] }
  | _ => none }
def staticStoresRow : OpenClaim := { program := "ytdhcgankmhpgeaagreat", sum := "e6208261e28c361bac48fe00793821cca3ce49dcbac75aa84b575e347101adf0", func := "netwright/netwrightlaw11.StaticStores", spec := "staticStores", inPlace := ["internal/bytealg.IndexByteString", "internal/bytealg.IndexString"], unfollowed := true, recurses := true, named := ["internal/bytealg.MaxLen"], loops := true, apart := false }
def StaticStoresSaid : Prop := staticStoresRow.holds Tryz.pinned (OpenSpec.ofChange staticStoresSpec)

/-- ITS FALSE NEIGHBOUR: 'it returns false'. Refute it at one input. -/
def staticStoresWrong : ChangeSpec := { name := "staticStores", fn := fun _ => fun
  | [d1, d2, d3] => { results := [.lit (.bool false)], args := [d1, d2, d3] }
  | _ => none }
def StaticStoresWrongFalsely : Prop := staticStoresRow.holds Tryz.pinned (OpenSpec.ofChange staticStoresWrong)

/-- 'netwrightlaw11.StaticTypes': WHATEVER THE INPUT: true; the input reads as it did. -/
def staticTypesSpec : ChangeSpec := { name := "staticTypes", fn := fun _ => fun
  | [d1, d2] => { results := [.lit (.bool true)], args := [d1, d2] }
  | _ => none }
def staticTypesRow : OpenClaim := { program := "ytdhcgankmhpgeaagreat", sum := "e6208261e28c361bac48fe00793821cca3ce49dcbac75aa84b575e347101adf0", func := "netwright/netwrightlaw11.StaticTypes", spec := "staticTypes", inPlace := ["internal/bytealg.IndexByteString", "internal/bytealg.IndexString"], unfollowed := true, recurses := true, named := ["internal/bytealg.MaxLen"], loops := true, apart := false }
def StaticTypesSaid : Prop := staticTypesRow.holds Tryz.pinned (OpenSpec.ofChange staticTypesSpec)

/-- ITS FALSE NEIGHBOUR: 'it returns false'. Refute it at one input. -/
def staticTypesWrong : ChangeSpec := { name := "staticTypes", fn := fun _ => fun
  | [d1, d2] => { results := [.lit (.bool false)], args := [d1, d2] }
  | _ => none }
def StaticTypesWrongFalsely : Prop := staticTypesRow.holds Tryz.pinned (OpenSpec.ofChange staticTypesWrong)

/-- 'netwrightlaw11.StaticVectors': WHATEVER THE INPUT: true; the input reads as it did. -/
def staticVectorsSpec : ChangeSpec := { name := "staticVectors", fn := fun _ => fun
  | [d1, d2, d3] => { results := [.lit (.bool true)], args := [d1, d2, d3] }
  | _ => none }
def staticVectorsRow : OpenClaim := { program := "ytdhcgankmhpgeaagreat", sum := "e6208261e28c361bac48fe00793821cca3ce49dcbac75aa84b575e347101adf0", func := "netwright/netwrightlaw11.StaticVectors", spec := "staticVectors", inPlace := ["internal/bytealg.IndexByteString", "internal/bytealg.IndexString"], unfollowed := true, recurses := true, named := ["internal/bytealg.MaxLen"], apart := false }
def StaticVectorsSaid : Prop := staticVectorsRow.holds Tryz.pinned (OpenSpec.ofChange staticVectorsSpec)

/-- ITS FALSE NEIGHBOUR: 'it returns false'. Refute it at one input. -/
def staticVectorsWrong : ChangeSpec := { name := "staticVectors", fn := fun _ => fun
  | [d1, d2, d3] => { results := [.lit (.bool false)], args := [d1, d2, d3] }
  | _ => none }
def StaticVectorsWrongFalsely : Prop := staticVectorsRow.holds Tryz.pinned (OpenSpec.ofChange staticVectorsWrong)

/-- 'netwrightlaw11.StaticAgain': WHATEVER THE INPUT: true; the input reads as it did. -/
def staticAgainSpec : ChangeSpec := { name := "staticAgain", fn := fun _ => fun
  | [d1, d2, d3] => { results := [.lit (.bool true)], args := [d1, d2, d3] }
  | _ => none }
def staticAgainRow : OpenClaim := { program := "ytdhcgankmhpgeaagreat", sum := "e6208261e28c361bac48fe00793821cca3ce49dcbac75aa84b575e347101adf0", func := "netwright/netwrightlaw11.StaticAgain", spec := "staticAgain", inPlace := ["internal/bytealg.IndexByteString", "internal/bytealg.IndexString"], unfollowed := true, recurses := true, named := ["internal/bytealg.MaxLen"], loops := true, apart := false }
def StaticAgainSaid : Prop := staticAgainRow.holds Tryz.pinned (OpenSpec.ofChange staticAgainSpec)

/-- ITS FALSE NEIGHBOUR: 'it returns false'. Refute it at one input. -/
def staticAgainWrong : ChangeSpec := { name := "staticAgain", fn := fun _ => fun
  | [d1, d2, d3] => { results := [.lit (.bool false)], args := [d1, d2, d3] }
  | _ => none }
def StaticAgainWrongFalsely : Prop := staticAgainRow.holds Tryz.pinned (OpenSpec.ofChange staticAgainWrong)

/-- 'netwrightlaw11.StaticFolded': WHATEVER THE INPUT: true; the input reads as it did. -/
def staticFoldedSpec : ChangeSpec := { name := "staticFolded", fn := fun _ => fun
  | [d1, d2] => { results := [.lit (.bool true)], args := [d1, d2] }
  | _ => none }
def staticFoldedRow : OpenClaim := { program := "ytdhcgankmhpgeaagreat", sum := "e6208261e28c361bac48fe00793821cca3ce49dcbac75aa84b575e347101adf0", func := "netwright/netwrightlaw11.StaticFolded", spec := "staticFolded", inPlace := ["internal/bytealg.IndexByteString", "internal/bytealg.IndexString"], unfollowed := true, recurses := true, named := ["internal/bytealg.MaxLen"], loops := true, apart := false }
def StaticFoldedSaid : Prop := staticFoldedRow.holds Tryz.pinned (OpenSpec.ofChange staticFoldedSpec)

/-- ITS FALSE NEIGHBOUR: 'it returns false'. Refute it at one input. -/
def staticFoldedWrong : ChangeSpec := { name := "staticFolded", fn := fun _ => fun
  | [d1, d2] => { results := [.lit (.bool false)], args := [d1, d2] }
  | _ => none }
def StaticFoldedWrongFalsely : Prop := staticFoldedRow.holds Tryz.pinned (OpenSpec.ofChange staticFoldedWrong)

/-- 'netwrightlaw11.StaticKept': WHATEVER THE INPUT: true; the input reads as it did. -/
def staticKeptSpec : ChangeSpec := { name := "staticKept", fn := fun _ => fun
  | [d1, d2, d3] => { results := [.lit (.bool true)], args := [d1, d2, d3] }
  | _ => none }
def staticKeptRow : OpenClaim := { program := "ytdhcgankmhpgeaagreat", sum := "e6208261e28c361bac48fe00793821cca3ce49dcbac75aa84b575e347101adf0", func := "netwright/netwrightlaw11.StaticKept", spec := "staticKept", inPlace := ["internal/bytealg.IndexByteString", "internal/bytealg.IndexString"], unfollowed := true, recurses := true, named := ["internal/bytealg.MaxLen"], loops := true, apart := false }
def StaticKeptSaid : Prop := staticKeptRow.holds Tryz.pinned (OpenSpec.ofChange staticKeptSpec)

/-- ITS FALSE NEIGHBOUR: 'it returns false'. Refute it at one input. -/
def staticKeptWrong : ChangeSpec := { name := "staticKept", fn := fun _ => fun
  | [d1, d2, d3] => { results := [.lit (.bool false)], args := [d1, d2, d3] }
  | _ => none }
def StaticKeptWrongFalsely : Prop := staticKeptRow.holds Tryz.pinned (OpenSpec.ofChange staticKeptWrong)

/- THE SECOND FORM. 'bulk': how many values and letters a reading holds, each counted each time it is reached (what is shared counts as often as it is met; a slice's spare places count too). A statement '..UptoSaid' is the law's where the arguments, and the package variables that the reading takes, are together of bulk at most 1048576: NARROWER than '..Said'. Prove '..Said' where nothing that the law and all that it calls make is longer than what came in: it says more and counts as full. Else prove '..UptoSaid'. A law counts once. -/
mutual
def uptoBulk {H : Type} : DataW H → Nat
  | .lit (.string bytes) => bytes.length + 1
  | .lit _ => 1
  | .nil => 1
  | .ptr d => uptoBulk d + 1
  | .slice elems spare => uptoBulkAll elems + uptoBulkAll spare + 1
  | .agg parts => uptoBulkAll parts + 1
  | .iface _ d => uptoBulk d + 1
  | .map entries => uptoBulkEntries entries + 1
  | .held _ => 1
def uptoBulkAll {H : Type} : List (DataW H) → Nat
  | [] => 0
  | d :: r => uptoBulk d + uptoBulkAll r
def uptoBulkEntries {H : Type} : List (Lit × DataW H) → Nat
  | [] => 0
  | x :: r => uptoBulkEntry x + uptoBulkEntries r
def uptoBulkEntry {H : Type} : Lit × DataW H → Nat
  | (.string bytes, d) => bytes.length + uptoBulk d + 1
  | (_, d) => uptoBulk d + 1
 end
def uptoSmall : (H : Type) → List (DataW H) → Bool := fun _ ds => decide (uptoBulkAll ds ≤ 1048576)
def OpenSpec.upto (s : _root_.Go.ChangeSpec) : _root_.Go.OpenSpec := { _root_.Go.OpenSpec.ofChange s with cond := some uptoSmall }

/-- 'netwrightlaw11.StaticEvals', WHERE WHAT IT READS IS OF BULK AT MOST 1048576: true; the input reads as it did. -/
def staticEvalsUptoRow : OpenClaim := { program := "ytdhcgankmhpgeaagreat", sum := "e6208261e28c361bac48fe00793821cca3ce49dcbac75aa84b575e347101adf0", func := "netwright/netwrightlaw11.StaticEvals", spec := "staticEvals", inPlace := ["internal/bytealg.IndexByteString", "internal/bytealg.IndexString"], unfollowed := true, recurses := true, named := ["internal/bytealg.MaxLen"], loops := true, apart := false, narrowed := true }
def StaticEvalsUptoSaid : Prop := staticEvalsUptoRow.holds Tryz.pinned (OpenSpec.upto staticEvalsSpec)

/-- 'netwrightlaw11.StaticCalls', WHERE WHAT IT READS IS OF BULK AT MOST 1048576: true; the input reads as it did. -/
def staticCallsUptoRow : OpenClaim := { program := "ytdhcgankmhpgeaagreat", sum := "e6208261e28c361bac48fe00793821cca3ce49dcbac75aa84b575e347101adf0", func := "netwright/netwrightlaw11.StaticCalls", spec := "staticCalls", inPlace := ["internal/bytealg.IndexByteString", "internal/bytealg.IndexString"], unfollowed := true, recurses := true, named := ["internal/bytealg.MaxLen"], loops := true, apart := false, narrowed := true }
def StaticCallsUptoSaid : Prop := staticCallsUptoRow.holds Tryz.pinned (OpenSpec.upto staticCallsSpec)

/-- 'netwrightlaw11.StaticOps', WHERE WHAT IT READS IS OF BULK AT MOST 1048576: true; the input reads as it did. -/
def staticOpsUptoRow : OpenClaim := { program := "ytdhcgankmhpgeaagreat", sum := "e6208261e28c361bac48fe00793821cca3ce49dcbac75aa84b575e347101adf0", func := "netwright/netwrightlaw11.StaticOps", spec := "staticOps", inPlace := ["internal/bytealg.IndexByteString", "internal/bytealg.IndexString"], unfollowed := true, recurses := true, named := ["internal/bytealg.MaxLen"], loops := true, apart := false, narrowed := true }
def StaticOpsUptoSaid : Prop := staticOpsUptoRow.holds Tryz.pinned (OpenSpec.upto staticOpsSpec)

/-- 'netwrightlaw11.StaticFolds', WHERE WHAT IT READS IS OF BULK AT MOST 1048576: true; the input reads as it did. -/
def staticFoldsUptoRow : OpenClaim := { program := "ytdhcgankmhpgeaagreat", sum := "e6208261e28c361bac48fe00793821cca3ce49dcbac75aa84b575e347101adf0", func := "netwright/netwrightlaw11.StaticFolds", spec := "staticFolds", inPlace := ["internal/bytealg.IndexByteString", "internal/bytealg.IndexString"], unfollowed := true, recurses := true, named := ["internal/bytealg.MaxLen"], loops := true, apart := false, narrowed := true }
def StaticFoldsUptoSaid : Prop := staticFoldsUptoRow.holds Tryz.pinned (OpenSpec.upto staticFoldsSpec)

/-- 'netwrightlaw11.StaticStores', WHERE WHAT IT READS IS OF BULK AT MOST 1048576: true; the input reads as it did. -/
def staticStoresUptoRow : OpenClaim := { program := "ytdhcgankmhpgeaagreat", sum := "e6208261e28c361bac48fe00793821cca3ce49dcbac75aa84b575e347101adf0", func := "netwright/netwrightlaw11.StaticStores", spec := "staticStores", inPlace := ["internal/bytealg.IndexByteString", "internal/bytealg.IndexString"], unfollowed := true, recurses := true, named := ["internal/bytealg.MaxLen"], loops := true, apart := false, narrowed := true }
def StaticStoresUptoSaid : Prop := staticStoresUptoRow.holds Tryz.pinned (OpenSpec.upto staticStoresSpec)

/-- 'netwrightlaw11.StaticTypes', WHERE WHAT IT READS IS OF BULK AT MOST 1048576: true; the input reads as it did. -/
def staticTypesUptoRow : OpenClaim := { program := "ytdhcgankmhpgeaagreat", sum := "e6208261e28c361bac48fe00793821cca3ce49dcbac75aa84b575e347101adf0", func := "netwright/netwrightlaw11.StaticTypes", spec := "staticTypes", inPlace := ["internal/bytealg.IndexByteString", "internal/bytealg.IndexString"], unfollowed := true, recurses := true, named := ["internal/bytealg.MaxLen"], loops := true, apart := false, narrowed := true }
def StaticTypesUptoSaid : Prop := staticTypesUptoRow.holds Tryz.pinned (OpenSpec.upto staticTypesSpec)

/-- 'netwrightlaw11.StaticVectors', WHERE WHAT IT READS IS OF BULK AT MOST 1048576: true; the input reads as it did. -/
def staticVectorsUptoRow : OpenClaim := { program := "ytdhcgankmhpgeaagreat", sum := "e6208261e28c361bac48fe00793821cca3ce49dcbac75aa84b575e347101adf0", func := "netwright/netwrightlaw11.StaticVectors", spec := "staticVectors", inPlace := ["internal/bytealg.IndexByteString", "internal/bytealg.IndexString"], unfollowed := true, recurses := true, named := ["internal/bytealg.MaxLen"], apart := false, narrowed := true }
def StaticVectorsUptoSaid : Prop := staticVectorsUptoRow.holds Tryz.pinned (OpenSpec.upto staticVectorsSpec)

/-- 'netwrightlaw11.StaticAgain', WHERE WHAT IT READS IS OF BULK AT MOST 1048576: true; the input reads as it did. -/
def staticAgainUptoRow : OpenClaim := { program := "ytdhcgankmhpgeaagreat", sum := "e6208261e28c361bac48fe00793821cca3ce49dcbac75aa84b575e347101adf0", func := "netwright/netwrightlaw11.StaticAgain", spec := "staticAgain", inPlace := ["internal/bytealg.IndexByteString", "internal/bytealg.IndexString"], unfollowed := true, recurses := true, named := ["internal/bytealg.MaxLen"], loops := true, apart := false, narrowed := true }
def StaticAgainUptoSaid : Prop := staticAgainUptoRow.holds Tryz.pinned (OpenSpec.upto staticAgainSpec)

/-- 'netwrightlaw11.StaticFolded', WHERE WHAT IT READS IS OF BULK AT MOST 1048576: true; the input reads as it did. -/
def staticFoldedUptoRow : OpenClaim := { program := "ytdhcgankmhpgeaagreat", sum := "e6208261e28c361bac48fe00793821cca3ce49dcbac75aa84b575e347101adf0", func := "netwright/netwrightlaw11.StaticFolded", spec := "staticFolded", inPlace := ["internal/bytealg.IndexByteString", "internal/bytealg.IndexString"], unfollowed := true, recurses := true, named := ["internal/bytealg.MaxLen"], loops := true, apart := false, narrowed := true }
def StaticFoldedUptoSaid : Prop := staticFoldedUptoRow.holds Tryz.pinned (OpenSpec.upto staticFoldedSpec)

/-- 'netwrightlaw11.StaticKept', WHERE WHAT IT READS IS OF BULK AT MOST 1048576: true; the input reads as it did. -/
def staticKeptUptoRow : OpenClaim := { program := "ytdhcgankmhpgeaagreat", sum := "e6208261e28c361bac48fe00793821cca3ce49dcbac75aa84b575e347101adf0", func := "netwright/netwrightlaw11.StaticKept", spec := "staticKept", inPlace := ["internal/bytealg.IndexByteString", "internal/bytealg.IndexString"], unfollowed := true, recurses := true, named := ["internal/bytealg.MaxLen"], loops := true, apart := false, narrowed := true }
def StaticKeptUptoSaid : Prop := staticKeptUptoRow.holds Tryz.pinned (OpenSpec.upto staticKeptSpec)

end Rows
end Go.Proofs.YtdhcgankmhpgeaaGreat
