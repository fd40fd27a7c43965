import Derived.Test.YtdhcgankmhpgeaaGreatRows
import Derived.ProofKit
import Derived.WalkKit
set_option linter.all false
namespace Go.Proofs.YtdhcgankmhpgeaaGreat.staticOps
open Go Go.RowKit
theorem k10:((Rows.staticOpsRow.unfollowed==Tryz.pinned.checked.prog.unfollowed 5))=true:=by kernel_rfl
theorem k11:((Rows.staticOpsRow.recurses==Tryz.pinned.checked.prog.recurses 5))=true:=by kernel_rfl
theorem k25:(Tryz.pinned.checked.prog.mayEnter)=true:=by kernel_rfl
end Go.Proofs.YtdhcgankmhpgeaaGreat.staticOps
