/- ManifestStrict holds: for every input the law returns true and leaves what came in as it was. No condition. -/
import Derived.Test.YtalgmieplcamcaaRows
import Derived.Test.YtalgmieplcamcaaEnv
import Derived.Test.YtalgmieplcamcaaU1
import Derived.Test.YtalgmieplcamcaaK2
import Derived.ProofKit
namespace Go.Proofs.Ytalgmieplcamcaa
open Go.AM Go.UM
set_option maxRecDepth 100000
theorem own : ownKnob Try.prog.godebug = none := by kernel_rfl
theorem laid : laidOutB Try.prog = true := by kernel_rfl

theorem manifestStrict_law (avs : List AV) (hc : ctyL tt 6 Try.f7.params.toList avs) : PCalls Try.prog 7 avs (.bool true) := by
  refine opnL_elim (T := tt) (n := 6) (ts := [33]) (K := fun avs => PCalls Try.prog 7 avs (.bool true)) ?_ hc
  intro es _ he
  obtain ⟨b, rfl⟩ := open8 (T := tt) (n := 4) (by kernel_rfl) he
  exact mstrict_law (R := R) n53 b

theorem manifestStrict_lifted (os : Os) (started : os.Started) (H : Type) (enc : TypeId × Value → H) :
    ReturnsInHanded {} Try.checked os 7 .any (Rows.manifestStrictSpec.pre6 enc Try.prog Try.f7 Rows.manifestStrictRow.domain false) (Rows.manifestStrictSpec.post enc Try.prog Try.f7 false true false false) :=
  lift_law (C := Try.checked) (T := tt) (n := 6) (tb := 4) hT.tt own started (by kernel_rfl) Try.func7
    (ChangeSpec.witness6 (enc := enc) (C := Try.checked) false ⟨#[], #[.slice none 0 0], []⟩ 8 (by kernel_rfl) (by kernel_rfl) (by kernel_rfl) (by kernel_rfl))
    laid (by kernel_rfl) rfl (fun ds h => by match ds, h with | [_], _ => rfl) rfl Try.underlying4 manifestStrict_law

theorem manifestStrict_holds : Rows.ManifestStrictSaid :=
  OpenClaim.holds_of_wide 7 Try.f7 rfl rfl rfl rfl rfl rfl rfl ⟨rfl, rfl, rfl, rfl, rfl⟩ rfl rfl rfl rfl rfl (by kernel_rfl) Try.func7 (by kernel_rfl)
    (of_decide_eq_true (by kernel_rfl)) (by unfold Func.isWrapper; first | (rw [if_pos (by decide +kernel)]; kernel_rfl) | (rw [if_neg (by decide +kernel)]; exact ⟨rfl, rfl⟩))
    (fun os started H enc _ => manifestStrict_lifted os started H enc)
end Go.Proofs.Ytalgmieplcamcaa
