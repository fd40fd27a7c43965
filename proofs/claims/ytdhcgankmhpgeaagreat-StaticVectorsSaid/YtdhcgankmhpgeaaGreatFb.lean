import Derived.Test.YtdhcgankmhpgeaaGreatRows
import Derived.ProofKit
import Derived.WalkKit
namespace Go.Proofs.YtdhcgankmhpgeaaGreat.staticVectors
open Go Go.RowKit
theorem k10 : ((Rows.staticVectorsRow.unfollowed == Tryz.pinned.checked.prog.unfollowed 9)) = true := by kernel_rfl
theorem k11 : ((Rows.staticVectorsRow.recurses == Tryz.pinned.checked.prog.recurses 9)) = true := by kernel_rfl
theorem k25 : (Tryz.pinned.checked.prog.mayEnter) = true := by kernel_rfl
end Go.Proofs.YtdhcgankmhpgeaaGreat.staticVectors
