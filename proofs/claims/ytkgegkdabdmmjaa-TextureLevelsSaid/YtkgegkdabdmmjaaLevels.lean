/- TextureLevels holds: for every input the law returns true and leaves what came in as it was. No condition. -/
import Derived.Test.YtkgegkdabdmmjaaRows
import Derived.Test.YtkgegkdabdmmjaaEnv
import Derived.Test.YtkgegkdabdmmjaaU0
import Derived.Test.YtkgegkdabdmmjaaK3
import Derived.ProofKit
namespace Go.Proofs.Ytkgegkdabdmmjaa
open Go.AM Go.UM
set_option maxRecDepth 100000
theorem own : ownKnob Try.prog.godebug = none := by kernel_rfl
theorem laid : laidOutB Try.prog = true := by kernel_rfl

theorem textureLevels_law (avs : List AV) (hc : ctyL tt 6 Try.f5.params.toList avs) : PCalls Try.prog 5 avs (.bool true) := by
  refine opnL_elim (T := tt) (n := 6) (ts := [24,3,3]) (K := fun avs => PCalls Try.prog 5 avs (.bool true)) ?_ hc
  intro s _ es h he
  obtain ⟨l, rfl, -⟩ : ∃ l : List T3, es = slc3 l ∧ ∀ v ∈ l, True := rows_map fun r hr => by
    refine opnK_elim (T := tt) 4 41 (fun r => ∃ x : T3, r = t3 x ∧ True) r ?_ (he r hr)
    intro a _ b _ c _
    exact ⟨⟨a, b, c⟩, rfl, trivial⟩
  intro x hx y hy
  exact levels_law (R := R) n90 ⟨s, l⟩ x y hx hy

theorem textureLevels_lifted (os : Os) (started : os.Started) (H : Type) (enc : TypeId × Value → H) :
    ReturnsInHanded {} Try.checked os 5 .any (Rows.textureLevelsSpec.pre6 enc Try.prog Try.f5 Rows.textureLevelsRow.domain false) (Rows.textureLevelsSpec.post enc Try.prog Try.f5 false true false false) :=
  lift_law (C := Try.checked) (T := tt) (n := 6) (tb := 4) hT.tt own started (by kernel_rfl) Try.func5
    (ChangeSpec.witness6 (enc := enc) (C := Try.checked) false ⟨#[], #[.agg #[.int .i64 0, .slice none 0 0], .int .i64 0, .int .i64 0], []⟩ 8 (by kernel_rfl) (by kernel_rfl) (by kernel_rfl) (by kernel_rfl))
    laid (by kernel_rfl) rfl (fun ds h => by match ds, h with | [_, _, _], _ => rfl) rfl Try.underlying4 textureLevels_law

theorem textureLevels_holds : Rows.TextureLevelsSaid :=
  OpenClaim.holds_of_wide 5 Try.f5 rfl rfl rfl rfl rfl rfl rfl ⟨rfl, rfl, rfl, rfl, rfl⟩ rfl rfl rfl rfl rfl (by kernel_rfl) Try.func5 (by kernel_rfl)
    (of_decide_eq_true (by kernel_rfl)) (by unfold Func.isWrapper; first | (rw [if_pos (by decide +kernel)]; kernel_rfl) | (rw [if_neg (by decide +kernel)]; exact ⟨rfl, rfl⟩))
    (fun os started H enc _ => textureLevels_lifted os started H enc)
end Go.Proofs.Ytkgegkdabdmmjaa
