import Derived.Test.YtdhcgankmhpgeaaGreatRows
import Derived.ProofKit
import Derived.WalkKit
set_option linter.all false
namespace Go.Proofs.YtdhcgankmhpgeaaGreat.staticOps
open Go Go.RowKit
theorem k1:(laidOutB Tryz.pinned.checked.prog)=true:=by kernel_rfl
theorem k9:((Rows.staticOpsRow.inPlace==Tryz.pinned.checked.prog.inPlace 5))=true:=by kernel_rfl
theorem k12:((Rows.staticOpsRow.named==Tryz.pinned.checked.prog.varsNamed 5))=true:=by kernel_rfl
end Go.Proofs.YtdhcgankmhpgeaaGreat.staticOps
