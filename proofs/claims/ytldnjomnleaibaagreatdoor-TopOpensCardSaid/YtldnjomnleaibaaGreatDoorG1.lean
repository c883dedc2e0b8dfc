/- One closed fact of the program, reckoned by itself: it takes much memory. -/
import Derived.Test.YtldnjomnleaibaaGreatDoorRows
namespace Go.Proofs.YtldnjomnleaibaaGreatDoor
set_option maxRecDepth 100000
theorem W9:(mapsRowed Tryz.prog:Bool)=true:=by kernel_rfl
end Go.Proofs.YtldnjomnleaibaaGreatDoor
