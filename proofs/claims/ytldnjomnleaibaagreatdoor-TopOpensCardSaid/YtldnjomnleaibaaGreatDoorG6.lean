/- One closed fact of the program, reckoned by itself: it takes much memory. -/
import Derived.Test.YtldnjomnleaibaaGreatDoorRows
namespace Go.Proofs.YtldnjomnleaibaaGreatDoor
set_option maxRecDepth 100000
theorem loops:((Rows.topOpensRow.loops==(Tryz.f5.params.toList++Rows.topOpensSpec.plain.varTypes Tryz.prog).any (Tryz.prog.loopsFrom ·)):Bool)=true:=by kernel_rfl
end Go.Proofs.YtldnjomnleaibaaGreatDoor
