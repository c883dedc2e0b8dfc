/- The closed facts together. -/
import Derived.Test.YtldnjomnleaibaaGreatDoorCards
import Derived.JoinedOf
import Derived.Test.YtldnjomnleaibaaGreatDoorG0
import Derived.Test.YtldnjomnleaibaaGreatDoorG1
import Derived.Test.YtldnjomnleaibaaGreatDoorG2
import Derived.Test.YtldnjomnleaibaaGreatDoorG3
import Derived.Test.YtldnjomnleaibaaGreatDoorG4
import Derived.Test.YtldnjomnleaibaaGreatDoorG5
import Derived.Test.YtldnjomnleaibaaGreatDoorG6
import Derived.Test.YtldnjomnleaibaaGreatDoorG7
import Derived.Test.YtldnjomnleaibaaGreatDoorG8
namespace Go.Proofs.YtldnjomnleaibaaGreatDoor
set_option maxRecDepth 100000
theorem an{x y:Bool}(h:x=true)(k:y=true):(x&&y)=true:=by rw[h,k]; rfl
theorem closed:joinedFacts Tryz.pinned.checked.prog 5 Tryz.f5 Rows.topOpensSpec Rows.topOpensRow=true:=
 (an (an (an (an (an (an (an (an (an (an (an (an (an (an (an (an (an (an (an (an (an (an (an (an (an (an (an (an (an (an (an (by kernel_rfl) laid) W9) (by kernel_rfl)) (by kernel_rfl)) (by kernel_rfl)) (by kernel_rfl)) (by kernel_rfl)) (by kernel_rfl)) acb) acd) ace) named) (by kernel_rfl)) (by kernel_rfl)) (by kernel_rfl)) loops) (by kernel_rfl)) (by kernel_rfl)) (by kernel_rfl)) (by kernel_rfl)) (by kernel_rfl)) (by kernel_rfl)) (by kernel_rfl)) heard) acf) (by kernel_rfl)) (by kernel_rfl)) (by kernel_rfl)) (by kernel_rfl)) (by kernel_rfl)) (by kernel_rfl))
end Go.Proofs.YtldnjomnleaibaaGreatDoor
