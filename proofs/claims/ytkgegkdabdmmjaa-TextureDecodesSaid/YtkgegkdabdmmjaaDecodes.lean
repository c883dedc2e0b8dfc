/- TextureDecodes holds: for every input the law returns true and leaves what came in as it was. No condition. -/
import Derived.Test.YtkgegkdabdmmjaaRows
import Derived.Test.YtkgegkdabdmmjaaEnv
import Derived.Test.YtkgegkdabdmmjaaU1
import Derived.Test.YtkgegkdabdmmjaaK2
import Derived.ProofKit
namespace Go.Proofs.Ytkgegkdabdmmjaa
open Go.AM Go.UM
set_option maxRecDepth 100000
theorem own : ownKnob Try.prog.godebug = none := by kernel_rfl
theorem laid : laidOutB Try.prog = true := by kernel_rfl

theorem textureDecodes_law (avs : List AV) (hc : ctyL tt 6 Try.f6.params.toList avs) : PCalls Try.prog 6 avs (.bool true) := by
  refine opnL_elim (T := tt) (n := 6) (ts := [26]) (K := fun avs => PCalls Try.prog 6 avs (.bool true)) ?_ hc
  intro es _ he
  obtain ⟨b, rfl⟩ := open8 (T := tt) (n := 4) (by kernel_rfl) he
  exact tdecodes_law (R := R) n96 b

theorem textureDecodes_lifted (os : Os) (started : os.Started) (H : Type) (enc : TypeId × Value → H) :
    ReturnsInHanded {} Try.checked os 6 .any (Rows.textureDecodesSpec.pre6 enc Try.prog Try.f6 Rows.textureDecodesRow.domain false) (Rows.textureDecodesSpec.post enc Try.prog Try.f6 false true false false) :=
  lift_law (C := Try.checked) (T := tt) (n := 6) (tb := 4) hT.tt own started (by kernel_rfl) Try.func6
    (ChangeSpec.witness6 (enc := enc) (C := Try.checked) false ⟨#[], #[.slice none 0 0], []⟩ 8 (by kernel_rfl) (by kernel_rfl) (by kernel_rfl) (by kernel_rfl))
    laid (by kernel_rfl) rfl (fun ds h => by match ds, h with | [_], _ => rfl) rfl Try.underlying4 textureDecodes_law

theorem textureDecodes_holds : Rows.TextureDecodesSaid :=
  OpenClaim.holds_of_wide 6 Try.f6 rfl rfl rfl rfl rfl rfl rfl ⟨rfl, rfl, rfl, rfl, rfl⟩ rfl rfl rfl rfl rfl (by kernel_rfl) Try.func6 (by kernel_rfl)
    (of_decide_eq_true (by kernel_rfl)) (by unfold Func.isWrapper; first | (rw [if_pos (by decide +kernel)]; kernel_rfl) | (rw [if_neg (by decide +kernel)]; exact ⟨rfl, rfl⟩))
    (fun os started H enc _ => textureDecodes_lifted os started H enc)
end Go.Proofs.Ytkgegkdabdmmjaa
