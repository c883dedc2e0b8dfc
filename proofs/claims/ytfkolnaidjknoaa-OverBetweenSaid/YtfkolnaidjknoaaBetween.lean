/- OverBetween holds: for every input the law returns true and leaves what came in as it was. No condition. -/
import Derived.Test.YtfkolnaidjknoaaRows
import Derived.Test.YtfkolnaidjknoaaEnv
import Derived.Test.YtfkolnaidjknoaaU0
import Derived.Test.YtfkolnaidjknoaaK1
import Derived.ProofKit
namespace Go.Proofs.Ytfkolnaidjknoaa
open Go.AM Go.UM
set_option maxRecDepth 100000
theorem own : ownKnob Try.prog.godebug = none := by kernel_rfl
theorem laid : laidOutB Try.prog = true := by kernel_rfl

theorem overBetween_law (avs : List AV) (hc : ctyL tt 6 Try.f3.params.toList avs) : PCalls Try.prog 3 avs (.bool true) := by
  refine opnL_elim (T := tt) (n := 6) (ts := [22, 22, 23]) (K := fun avs => PCalls Try.prog 3 avs (.bool true)) ?_ hc
  intro a ha b hb c hc d hd
  exact between_c (R := R) n108 a b c d ha hb hc hd

theorem overBetween_lifted (os : Os) (started : os.Started) (H : Type) (enc : TypeId × Value → H) :
    ReturnsInHanded {} Try.checked os 3 .any (Rows.overBetweenSpec.pre6 enc Try.prog Try.f3 Rows.overBetweenRow.domain false) (Rows.overBetweenSpec.post enc Try.prog Try.f3 false true false false) :=
  lift_law (C := Try.checked) (T := tt) (n := 6) (tb := 4) hT.tt own started (by kernel_rfl) Try.func3
    (ChangeSpec.witness6 (enc := enc) (C := Try.checked) false ⟨#[], #[.int .u16 0, .int .u16 0, .agg #[.int .u16 0, .int .u16 0]], []⟩ 8 (by kernel_rfl) (by kernel_rfl) (by kernel_rfl) (by kernel_rfl))
    laid (by kernel_rfl) rfl (fun ds h => by match ds, h with | [_, _, _], _ => rfl) rfl Try.underlying4 overBetween_law

theorem overBetween_holds : Rows.OverBetweenSaid :=
  OpenClaim.holds_of_wide 3 Try.f3 rfl rfl rfl rfl rfl rfl rfl ⟨rfl, rfl, rfl, rfl, rfl⟩ rfl rfl rfl rfl rfl (by kernel_rfl) Try.func3 (by kernel_rfl)
    (of_decide_eq_true (by kernel_rfl)) (by unfold Func.isWrapper; first | (rw [if_pos (by decide +kernel)]; kernel_rfl) | (rw [if_neg (by decide +kernel)]; exact ⟨rfl, rfl⟩))
    (fun os started H enc _ => overBetween_lifted os started H enc)
end Go.Proofs.Ytfkolnaidjknoaa
