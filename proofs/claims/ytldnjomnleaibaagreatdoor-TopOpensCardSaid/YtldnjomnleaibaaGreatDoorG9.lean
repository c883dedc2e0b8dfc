/- No function of the program starts a goroutine. -/
import Derived.Test.YtldnjomnleaibaaGreatDoorCards
namespace Go.Proofs.YtldnjomnleaibaaGreatDoor
set_option maxRecDepth 100000
theorem Ii:Tryz.prog.funcs.any Func.goes=false:=by kernel_rfl
theorem Ij{P:Program}(h:P.funcs.any Func.goes=false)(f:FuncId):P.goes f=false:=by
 unfold Program.goes
 rw[h,Bool.and_false,Bool.or_false,List.any_eq_false]
 intro g _ hg
 cases hf:P.funcs[g]? with
 |none=>rw[hf]at hg; cases hg
 |some fn=>
  rw[hf]at hg
  obtain⟨hi,rfl⟩:=Array.getElem?_eq_some_iff.1 hf
  exact Array.any_eq_false.1 h g hi hg
theorem K8:false=Rows.topOpensRow.goesBy Tryz.pinned.checked.prog:=by
 have h:∀g,Tryz.prog.goes g=false:=Ij Ii
 show false=(Tryz.prog.goesFrom Rows.topOpensRow.func||false)
 unfold Program.goesFrom
 cases Tryz.prog.funcNamed Rows.topOpensRow.func with
 |none=>rfl
 |some g=>rw[Option.any_some,h g]; rfl
end Go.Proofs.YtldnjomnleaibaaGreatDoor
