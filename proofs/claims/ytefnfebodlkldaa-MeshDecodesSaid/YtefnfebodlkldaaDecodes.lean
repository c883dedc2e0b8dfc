/- MeshDecodes holds: for every input the law returns true and leaves what came in as it was. No condition. -/
import Derived.Test.YtefnfebodlkldaaRows
import Derived.Test.YtefnfebodlkldaaEnv
import Derived.Test.YtefnfebodlkldaaU2
import Derived.Test.YtefnfebodlkldaaK2
import Derived.ProofKit
namespace Go.Proofs.Ytefnfebodlkldaa
open Go.AM Go.UM
set_option maxRecDepth 100000
theorem own : ownKnob Try.prog.godebug = none := by kernel_rfl
theorem laid : laidOutB Try.prog = true := by kernel_rfl

theorem meshDecodes_law (avs : List AV) (hc : ctyL tt 6 Try.f6.params.toList avs) : PCalls Try.prog 6 avs (.bool true) := by
  refine opnL_elim (T := tt) (n := 6) (ts := [38]) (K := fun avs => PCalls Try.prog 6 avs (.bool true)) ?_ hc
  intro es _ he
  obtain ⟨b, rfl⟩ := open8 (T := tt) (n := 4) (by kernel_rfl) he
  exact mdecodes_law (R := R) n201 b

theorem meshDecodes_lifted (os : Os) (started : os.Started) (H : Type) (enc : TypeId × Value → H) :
    ReturnsInHanded {} Try.checked os 6 .any (Rows.meshDecodesSpec.pre6 enc Try.prog Try.f6 Rows.meshDecodesRow.domain false) (Rows.meshDecodesSpec.post enc Try.prog Try.f6 false true false false) :=
  lift_law (C := Try.checked) (T := tt) (n := 6) (tb := 4) hT.tt own started (by kernel_rfl) Try.func6
    (ChangeSpec.witness6 (enc := enc) (C := Try.checked) false ⟨#[], #[.slice none 0 0], []⟩ 8 (by kernel_rfl) (by kernel_rfl) (by kernel_rfl) (by kernel_rfl))
    laid (by kernel_rfl) rfl (fun ds h => by match ds, h with | [_], _ => rfl) rfl Try.underlying4 meshDecodes_law

theorem meshDecodes_holds : Rows.MeshDecodesSaid :=
  OpenClaim.holds_of_wide 6 Try.f6 rfl rfl rfl rfl rfl rfl rfl ⟨rfl, rfl, rfl, rfl, rfl⟩ rfl rfl rfl rfl rfl (by kernel_rfl) Try.func6 (by kernel_rfl)
    (of_decide_eq_true (by kernel_rfl)) (by unfold Func.isWrapper; first | (rw [if_pos (by decide +kernel)]; kernel_rfl) | (rw [if_neg (by decide +kernel)]; exact ⟨rfl, rfl⟩))
    (fun os started H enc _ => meshDecodes_lifted os started H enc)
end Go.Proofs.Ytefnfebodlkldaa
