import Derived.Test.YtdhcgankmhpgeaaGreatFa
import Derived.Test.YtdhcgankmhpgeaaGreatFb
import Derived.Test.YtdhcgankmhpgeaaGreatFc
import Derived.Test.YtdhcgankmhpgeaaGreatRows
import Derived.ProofKit
import Derived.WalkKit
set_option linter.all false
namespace Go.Proofs.YtdhcgankmhpgeaaGreat.staticOps
open Go Go.RowKit
set_option maxRecDepth 100000 in
theorem closed:joinedFacts Tryz.pinned.checked.prog 5 Tryz.f5 Rows.staticOpsSpec Rows.staticOpsRow=true:=by
 unfold joinedFacts
 exact(band (band (band (band (band (band (band (band (band (band (band (band (band (band (band (band (band (band (band (band (band (band (band (band (band (band (band (band (band (band (band k0 k1) k2) k3) k4) k5) k6) k7) k8) k9) k10) k11) k12) k13) k14) k15) k16) k17) k18) k19) k20) k21) k22) k23) k24) k25) k26) k27) k28) k29) k30) k31)
end Go.Proofs.YtdhcgankmhpgeaaGreat.staticOps
