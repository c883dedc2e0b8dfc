/- PackZag holds: for every input the law returns true and leaves what came in as it was. No condition. -/
import Derived.Test.YtcdmkciicdngdaaRows
import Derived.Test.YtcdmkciicdngdaaEnv
import Derived.Test.YtcdmkciicdngdaaU0
import Derived.Test.YtcdmkciicdngdaaK2
import Derived.ProofKit
namespace Go.Proofs.Ytcdmkciicdngdaa
open Go.AM Go.UM
set_option maxRecDepth 100000
theorem own : ownKnob Try.prog.godebug = none := by kernel_rfl
theorem laid : laidOutB Try.prog = true := by kernel_rfl

theorem packZag_law (avs : List AV) (hc : ctyL tt 6 Try.f4.params.toList avs) : PCalls Try.prog 4 avs (.bool true) := by
  refine opnL_elim (T := tt) (n := 6) (ts := [21]) (K := fun avs => PCalls Try.prog 4 avs (.bool true)) ?_ hc
  intro k hk
  exact zag_law (R := R) n167 k hk

theorem packZag_lifted (os : Os) (started : os.Started) (H : Type) (enc : TypeId × Value → H) :
    ReturnsInHanded {} Try.checked os 4 .any (Rows.packZagSpec.pre6 enc Try.prog Try.f4 Rows.packZagRow.domain false) (Rows.packZagSpec.post enc Try.prog Try.f4 false true false false) :=
  lift_law (C := Try.checked) (T := tt) (n := 6) (tb := 4) hT.tt own started (by kernel_rfl) Try.func4
    (ChangeSpec.witness6 (enc := enc) (C := Try.checked) false ⟨#[], #[.int .i32 0], []⟩ 8 (by kernel_rfl) (by kernel_rfl) (by kernel_rfl) (by kernel_rfl))
    laid (by kernel_rfl) rfl (fun ds h => by match ds, h with | [_], _ => rfl) rfl Try.underlying4 packZag_law

theorem packZag_holds : Rows.PackZagSaid :=
  OpenClaim.holds_of_wide 4 Try.f4 rfl rfl rfl rfl rfl rfl rfl ⟨rfl, rfl, rfl, rfl, rfl⟩ rfl rfl rfl rfl rfl (by kernel_rfl) Try.func4 (by kernel_rfl)
    (of_decide_eq_true (by kernel_rfl)) (by unfold Func.isWrapper; first | (rw [if_pos (by decide +kernel)]; kernel_rfl) | (rw [if_neg (by decide +kernel)]; exact ⟨rfl, rfl⟩))
    (fun os started H enc _ => packZag_lifted os started H enc)
end Go.Proofs.Ytcdmkciicdngdaa
