/- CodecWidths holds: for every input the law returns true and leaves what came in as it was. No condition. -/
import Derived.Test.YtfkakbaimadicaaRows
import Derived.Test.YtfkakbaimadicaaEnv
import Derived.Test.YtfkakbaimadicaaU0
import Derived.Test.YtfkakbaimadicaaK2
import Derived.ProofKit
namespace Go.Proofs.Ytfkakbaimadicaa
open Go.AM Go.UM
set_option maxRecDepth 100000
theorem own : ownKnob Try.prog.godebug = none := by kernel_rfl
theorem laid : laidOutB Try.prog = true := by kernel_rfl

theorem codecWidths_law (avs : List AV) (hc : ctyL tt 6 Try.f4.params.toList avs) : PCalls Try.prog 4 avs (.bool true) := by
  refine opnL_elim (T := tt) (n := 6) (ts := [30,3]) (K := fun avs => PCalls Try.prog 4 avs (.bool true)) ?_ hc
  intro n hn w hw
  exact widths_law (R := R) n74 n w hn hw

theorem codecWidths_lifted (os : Os) (started : os.Started) (H : Type) (enc : TypeId × Value → H) :
    ReturnsInHanded {} Try.checked os 4 .any (Rows.codecWidthsSpec.pre6 enc Try.prog Try.f4 Rows.codecWidthsRow.domain false) (Rows.codecWidthsSpec.post enc Try.prog Try.f4 false true false false) :=
  lift_law (C := Try.checked) (T := tt) (n := 6) (tb := 4) hT.tt own started (by kernel_rfl) Try.func4
    (ChangeSpec.witness6 (enc := enc) (C := Try.checked) false ⟨#[], #[.int .u64 0, .int .i64 0], []⟩ 8 (by kernel_rfl) (by kernel_rfl) (by kernel_rfl) (by kernel_rfl))
    laid (by kernel_rfl) rfl (fun ds h => by match ds, h with | [_, _], _ => rfl) rfl Try.underlying4 codecWidths_law

theorem codecWidths_holds : Rows.CodecWidthsSaid :=
  OpenClaim.holds_of_wide 4 Try.f4 rfl rfl rfl rfl rfl rfl rfl ⟨rfl, rfl, rfl, rfl, rfl⟩ rfl rfl rfl rfl rfl (by kernel_rfl) Try.func4 (by kernel_rfl)
    (of_decide_eq_true (by kernel_rfl)) (by unfold Func.isWrapper; first | (rw [if_pos (by decide +kernel)]; kernel_rfl) | (rw [if_neg (by decide +kernel)]; exact ⟨rfl, rfl⟩))
    (fun os started H enc _ => codecWidths_lifted os started H enc)
end Go.Proofs.Ytfkakbaimadicaa
