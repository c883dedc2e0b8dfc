/- PackDeltas holds: for every input the law returns true and leaves what came in as it was. No condition. -/
import Derived.Test.YtcdmkciicdngdaaRows
import Derived.Test.YtcdmkciicdngdaaEnv
import Derived.Test.YtcdmkciicdngdaaU1
import Derived.Test.YtcdmkciicdngdaaK2
import Derived.ProofKit
namespace Go.Proofs.Ytcdmkciicdngdaa
open Go.AM Go.UM
set_option maxRecDepth 100000
theorem own : ownKnob Try.prog.godebug = none := by kernel_rfl
theorem laid : laidOutB Try.prog = true := by kernel_rfl

theorem packDeltas_law (avs : List AV) (hc : ctyL tt 6 Try.f5.params.toList avs) : PCalls Try.prog 5 avs (.bool true) := by
  refine opnL_elim (T := tt) (n := 6) (ts := [26,24,3]) (K := fun avs => PCalls Try.prog 5 avs (.bool true)) ?_ hc
  intro w _ h _ d _ nm _ es _ he ds _ hds k hk
  obtain ⟨l, rfl, -⟩ := openK (T := tt) (n := 3) (k := .i64) (by kernel_rfl) he
  obtain ⟨m, rfl, -⟩ := openK (T := tt) (n := 4) (k := .i64) (by kernel_rfl) hds
  exact pdeltas_law (R := R) n170 ⟨w, h, d, nm, l⟩ m k hk

theorem packDeltas_lifted (os : Os) (started : os.Started) (H : Type) (enc : TypeId × Value → H) :
    ReturnsInHanded {} Try.checked os 5 .any (Rows.packDeltasSpec.pre6 enc Try.prog Try.f5 Rows.packDeltasRow.domain false) (Rows.packDeltasSpec.post enc Try.prog Try.f5 false true false false) :=
  lift_law (C := Try.checked) (T := tt) (n := 6) (tb := 4) hT.tt own started (by kernel_rfl) Try.func5
    (ChangeSpec.witness6 (enc := enc) (C := Try.checked) false ⟨#[], #[.agg #[.int .i64 0, .int .i64 0, .int .i64 0, .string ByteArray.empty, .slice none 0 0], .slice none 0 0, .int .i64 0], []⟩ 8 (by kernel_rfl) (by kernel_rfl) (by kernel_rfl) (by kernel_rfl))
    laid (by kernel_rfl) rfl (fun ds h => by match ds, h with | [_, _, _], _ => rfl) rfl Try.underlying4 packDeltas_law

theorem packDeltas_holds : Rows.PackDeltasSaid :=
  OpenClaim.holds_of_wide 5 Try.f5 rfl rfl rfl rfl rfl rfl rfl ⟨rfl, rfl, rfl, rfl, rfl⟩ rfl rfl rfl rfl rfl (by kernel_rfl) Try.func5 (by kernel_rfl)
    (of_decide_eq_true (by kernel_rfl)) (by unfold Func.isWrapper; first | (rw [if_pos (by decide +kernel)]; kernel_rfl) | (rw [if_neg (by decide +kernel)]; exact ⟨rfl, rfl⟩))
    (fun os started H enc _ => packDeltas_lifted os started H enc)
end Go.Proofs.Ytcdmkciicdngdaa
