/- PackFlat holds: for every input the law returns true and leaves what came in as it was. No condition. -/
import Derived.Test.YtcdmkciicdngdaaRows
import Derived.Test.YtcdmkciicdngdaaEnv
import Derived.Test.YtcdmkciicdngdaaU1
import Derived.Test.YtcdmkciicdngdaaU0
import Derived.Test.YtcdmkciicdngdaaK2
import Derived.ProofKit
namespace Go.Proofs.Ytcdmkciicdngdaa
open Go.AM Go.UM
set_option maxRecDepth 100000
theorem own : ownKnob Try.prog.godebug = none := by kernel_rfl
theorem laid : laidOutB Try.prog = true := by kernel_rfl

theorem packFlat_law (avs : List AV) (hc : ctyL tt 6 Try.f3.params.toList avs) : PCalls Try.prog 3 avs (.bool true) := by
  refine opnL_elim (T := tt) (n := 6) (ts := [5,5,23]) (K := fun avs => PCalls Try.prog 3 avs (.bool true)) ?_ hc
  intro w hw v hv a ha b hb c hc
  exact flat_law (R := R) n163 w v a b c hw hv ha hb hc

theorem packFlat_lifted (os : Os) (started : os.Started) (H : Type) (enc : TypeId × Value → H) :
    ReturnsInHanded {} Try.checked os 3 .any (Rows.packFlatSpec.pre6 enc Try.prog Try.f3 Rows.packFlatRow.domain false) (Rows.packFlatSpec.post enc Try.prog Try.f3 false true false false) :=
  lift_law (C := Try.checked) (T := tt) (n := 6) (tb := 4) hT.tt own started (by kernel_rfl) Try.func3
    (ChangeSpec.witness6 (enc := enc) (C := Try.checked) false ⟨#[], #[.int .u8 0, .int .u8 0, .agg #[.int .u16 0, .int .u16 0, .int .u16 0]], []⟩ 8 (by kernel_rfl) (by kernel_rfl) (by kernel_rfl) (by kernel_rfl))
    laid (by kernel_rfl) rfl (fun ds h => by match ds, h with | [_, _, _], _ => rfl) rfl Try.underlying4 packFlat_law

theorem packFlat_holds : Rows.PackFlatSaid :=
  OpenClaim.holds_of_wide 3 Try.f3 rfl rfl rfl rfl rfl rfl rfl ⟨rfl, rfl, rfl, rfl, rfl⟩ rfl rfl rfl rfl rfl (by kernel_rfl) Try.func3 (by kernel_rfl)
    (of_decide_eq_true (by kernel_rfl)) (by unfold Func.isWrapper; first | (rw [if_pos (by decide +kernel)]; kernel_rfl) | (rw [if_neg (by decide +kernel)]; exact ⟨rfl, rfl⟩))
    (fun os started H enc _ => packFlat_lifted os started H enc)
end Go.Proofs.Ytcdmkciicdngdaa
