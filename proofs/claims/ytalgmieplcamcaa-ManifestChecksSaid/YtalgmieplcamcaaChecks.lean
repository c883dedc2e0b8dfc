/- ManifestChecks holds: for every input the law returns true and leaves what came in as it was. No condition. -/
import Derived.Test.YtalgmieplcamcaaRows
import Derived.Test.YtalgmieplcamcaaEnv
import Derived.Test.YtalgmieplcamcaaU0
import Derived.Test.YtalgmieplcamcaaK1
import Derived.ProofKit
namespace Go.Proofs.Ytalgmieplcamcaa
open Go.AM Go.UM
set_option maxRecDepth 100000
theorem own : ownKnob Try.prog.godebug = none := by kernel_rfl
theorem laid : laidOutB Try.prog = true := by kernel_rfl

theorem manifestChecks_law (avs : List AV) (hc : ctyL tt 6 Try.f3.params.toList avs) : PCalls Try.prog 3 avs (.bool true) := by
  refine opnL_elim (T := tt) (n := 6) (ts := [26,3]) (K := fun avs => PCalls Try.prog 3 avs (.bool true)) ?_ hc
  intro a0 _ a1 _ a2 _ a3 _ a4 _ a5 _ a6 _ a7 _ a8 _ a9 _ a10 _ a11 _ a12 _ a13 h13 a14 _ k hk
  exact checks_c (R := R) n36 ⟨a0, a1, a2, a3, a4, a5, a6, a7, a8, a9, a10, a11, a12, a13, a14⟩ h13 k hk

theorem manifestChecks_lifted (os : Os) (started : os.Started) (H : Type) (enc : TypeId × Value → H) :
    ReturnsInHanded {} Try.checked os 3 .any (Rows.manifestChecksSpec.pre6 enc Try.prog Try.f3 Rows.manifestChecksRow.domain false) (Rows.manifestChecksSpec.post enc Try.prog Try.f3 false true false false) :=
  lift_law (C := Try.checked) (T := tt) (n := 6) (tb := 4) hT.tt own started (by kernel_rfl) Try.func3
    (ChangeSpec.witness6 (enc := enc) (C := Try.checked) false ⟨#[], #[.agg #[.int .u64 0, .int .i64 0, .int .u32 0, .int .u8 0, .int .u8 0, .int .u8 0, .int .u8 0, .int .u8 0, .int .u8 0, .int .u8 0, .int .u8 0, .int .u32 0, .int .u32 0, .int .i64 0, .int .i64 0], .int .i64 0], []⟩ 8 (by kernel_rfl) (by kernel_rfl) (by kernel_rfl) (by kernel_rfl))
    laid (by kernel_rfl) rfl (fun ds h => by match ds, h with | [_, _], _ => rfl) rfl Try.underlying4 manifestChecks_law

theorem manifestChecks_holds : Rows.ManifestChecksSaid :=
  OpenClaim.holds_of_wide 3 Try.f3 rfl rfl rfl rfl rfl rfl rfl ⟨rfl, rfl, rfl, rfl, rfl⟩ rfl rfl rfl rfl rfl (by kernel_rfl) Try.func3 (by kernel_rfl)
    (of_decide_eq_true (by kernel_rfl)) (by unfold Func.isWrapper; first | (rw [if_pos (by decide +kernel)]; kernel_rfl) | (rw [if_neg (by decide +kernel)]; exact ⟨rfl, rfl⟩))
    (fun os started H enc _ => manifestChecks_lifted os started H enc)
end Go.Proofs.Ytalgmieplcamcaa
