/- AssetDecodes holds: for every input the law returns true and leaves what came in as it was. No condition. -/
import Derived.Test.YtfcclkehihjcbaaRows
import Derived.Test.YtfcclkehihjcbaaEnv
import Derived.Test.YtfcclkehihjcbaaU2
import Derived.Test.YtfcclkehihjcbaaK2
import Derived.ProofKit
namespace Go.Proofs.Ytfcclkehihjcbaa
open Go.AM Go.UM
set_option maxRecDepth 100000
theorem own : ownKnob Try.prog.godebug = none := by kernel_rfl
theorem laid : laidOutB Try.prog = true := by kernel_rfl

theorem assetDecodes_law (avs : List AV) (hc : ctyL tt 6 Try.f6.params.toList avs) : PCalls Try.prog 6 avs (.bool true) := by
  refine opnL_elim (T := tt) (n := 6) (ts := [3,49]) (K := fun avs => PCalls Try.prog 6 avs (.bool true)) ?_ hc
  intro k _ es _ he
  obtain ⟨b, rfl⟩ := open8 (T := tt) (n := 4) (by kernel_rfl) he
  exact decodes15_c (R := R) n303 k b

theorem assetDecodes_lifted (os : Os) (started : os.Started) (H : Type) (enc : TypeId × Value → H) :
    ReturnsInHanded {} Try.checked os 6 .any (Rows.assetDecodesSpec.pre6 enc Try.prog Try.f6 Rows.assetDecodesRow.domain false) (Rows.assetDecodesSpec.post enc Try.prog Try.f6 false true false false) :=
  lift_law (C := Try.checked) (T := tt) (n := 6) (tb := 4) hT.tt own started (by kernel_rfl) Try.func6
    (ChangeSpec.witness6 (enc := enc) (C := Try.checked) false ⟨#[], #[.int .i64 0, .slice none 0 0], []⟩ 8 (by kernel_rfl) (by kernel_rfl) (by kernel_rfl) (by kernel_rfl))
    laid (by kernel_rfl) rfl (fun ds h => by match ds, h with | [_, _], _ => rfl) rfl Try.underlying4 assetDecodes_law

theorem assetDecodes_holds : Rows.AssetDecodesSaid :=
  OpenClaim.holds_of_wide 6 Try.f6 rfl rfl rfl rfl rfl rfl rfl ⟨rfl, rfl, rfl, rfl, rfl⟩ rfl rfl rfl rfl rfl (by kernel_rfl) Try.func6 (by kernel_rfl)
    (of_decide_eq_true (by kernel_rfl)) (by unfold Func.isWrapper; first | (rw [if_pos (by decide +kernel)]; kernel_rfl) | (rw [if_neg (by decide +kernel)]; exact ⟨rfl, rfl⟩))
    (fun os started H enc _ => assetDecodes_lifted os started H enc)
end Go.Proofs.Ytfcclkehihjcbaa
