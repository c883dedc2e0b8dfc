/- ManifestDecodes holds: for every input the law returns true and leaves what came in as it was. No condition. -/
import Derived.Test.YtalgmieplcamcaaRows
import Derived.Test.YtalgmieplcamcaaEnv
import Derived.Test.YtalgmieplcamcaaU2
import Derived.Test.YtalgmieplcamcaaK2
import Derived.ProofKit
namespace Go.Proofs.Ytalgmieplcamcaa
open Go.AM Go.UM
set_option maxRecDepth 100000
theorem own : ownKnob Try.prog.godebug = none := by kernel_rfl
theorem laid : laidOutB Try.prog = true := by kernel_rfl

theorem manifestDecodes_law (avs : List AV) (hc : ctyL tt 6 Try.f5.params.toList avs) : PCalls Try.prog 5 avs (.bool true) := by
  refine opnL_elim (T := tt) (n := 6) (ts := [33]) (K := fun avs => PCalls Try.prog 5 avs (.bool true)) ?_ hc
  intro es _ he
  obtain ⟨b, rfl⟩ := open8 (T := tt) (n := 4) (by kernel_rfl) he
  exact mdecodes_law (R := R) n48 b

theorem manifestDecodes_lifted (os : Os) (started : os.Started) (H : Type) (enc : TypeId × Value → H) :
    ReturnsInHanded {} Try.checked os 5 .any (Rows.manifestDecodesSpec.pre6 enc Try.prog Try.f5 Rows.manifestDecodesRow.domain false) (Rows.manifestDecodesSpec.post enc Try.prog Try.f5 false true false false) :=
  lift_law (C := Try.checked) (T := tt) (n := 6) (tb := 4) hT.tt own started (by kernel_rfl) Try.func5
    (ChangeSpec.witness6 (enc := enc) (C := Try.checked) false ⟨#[], #[.slice none 0 0], []⟩ 8 (by kernel_rfl) (by kernel_rfl) (by kernel_rfl) (by kernel_rfl))
    laid (by kernel_rfl) rfl (fun ds h => by match ds, h with | [_], _ => rfl) rfl Try.underlying4 manifestDecodes_law

theorem manifestDecodes_holds : Rows.ManifestDecodesSaid :=
  OpenClaim.holds_of_wide 5 Try.f5 rfl rfl rfl rfl rfl rfl rfl ⟨rfl, rfl, rfl, rfl, rfl⟩ rfl rfl rfl rfl rfl (by kernel_rfl) Try.func5 (by kernel_rfl)
    (of_decide_eq_true (by kernel_rfl)) (by unfold Func.isWrapper; first | (rw [if_pos (by decide +kernel)]; kernel_rfl) | (rw [if_neg (by decide +kernel)]; exact ⟨rfl, rfl⟩))
    (fun os started H enc _ => manifestDecodes_lifted os started H enc)
end Go.Proofs.Ytalgmieplcamcaa
