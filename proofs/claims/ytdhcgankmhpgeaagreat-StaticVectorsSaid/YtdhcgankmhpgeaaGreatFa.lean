import Derived.Test.YtdhcgankmhpgeaaGreatRows
import Derived.ProofKit
import Derived.WalkKit
namespace Go.Proofs.YtdhcgankmhpgeaaGreat.staticVectors
open Go Go.RowKit
theorem k1 : (laidOutB Tryz.pinned.checked.prog) = true := by kernel_rfl
theorem k9 : ((Rows.staticVectorsRow.inPlace == Tryz.pinned.checked.prog.inPlace 9)) = true := by kernel_rfl
theorem k12 : ((Rows.staticVectorsRow.named == Tryz.pinned.checked.prog.varsNamed 9)) = true := by kernel_rfl
end Go.Proofs.YtdhcgankmhpgeaaGreat.staticVectors
