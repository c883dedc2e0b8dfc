/- AffineGrid holds: for every input the law returns true and leaves what came in as it was. No condition. -/
import Derived.Test.YthnphjpjgcmdbaaRows
import Derived.Test.YthnphjpjgcmdbaaEnv
import Derived.Test.YthnphjpjgcmdbaaU1
import Derived.Test.YthnphjpjgcmdbaaK2
import Derived.ProofKit
namespace Go.Proofs.Ythnphjpjgcmdbaa
open Go.AM Go.UM
set_option maxRecDepth 100000
theorem own : ownKnob Try.prog.godebug = none := by kernel_rfl
theorem laid : laidOutB Try.prog = true := by kernel_rfl

theorem affineGrid_law (avs : List AV) (hc : ctyL tt 6 Try.f9.params.toList avs) : PCalls Try.prog 9 avs (.bool true) := by
  refine opnL_elim (T := tt) (n := 6) (ts := [29,48]) (K := fun avs => PCalls Try.prog 9 avs (.bool true)) ?_ hc
  intro am0 ham0 am1 ham1 am2 ham2 am3 ham3 am4 ham4 am5 ham5 am6 ham6 am7 ham7 am8 ham8 ata hata atb hatb atc hatc
  intro px hpx py hpy pz hpz
  exact grid_law (R := R) n250 (a := ⟨am0, am1, am2, am3, am4, am5, am6, am7, am8, ⟨ata, atb, atc⟩⟩) (p := ⟨px, py, pz⟩) ⟨ham0, ham1, ham2, ham3, ham4, ham5, ham6, ham7, ham8, ⟨hata, hatb, hatc⟩⟩ ⟨hpx, hpy, hpz⟩

theorem affineGrid_lifted (os : Os) (started : os.Started) (H : Type) (enc : TypeId × Value → H) :
    ReturnsInHanded {} Try.checked os 9 .any (Rows.affineGridSpec.pre6 enc Try.prog Try.f9 Rows.affineGridRow.domain false) (Rows.affineGridSpec.post enc Try.prog Try.f9 false true false false) :=
  lift_law (C := Try.checked) (T := tt) (n := 6) (tb := 4) hT.tt own started (by kernel_rfl) Try.func9
    (ChangeSpec.witness6 (enc := enc) (C := Try.checked) false ⟨#[], #[.agg #[.int .i64 0, .int .i64 0, .int .i64 0, .int .i64 0, .int .i64 0, .int .i64 0, .int .i64 0, .int .i64 0, .int .i64 0, .int .i64 0, .int .i64 0, .int .i64 0], .agg #[.int .i64 0, .int .i64 0, .int .i64 0]], []⟩ 8 (by kernel_rfl) (by kernel_rfl) (by kernel_rfl) (by kernel_rfl))
    laid (by kernel_rfl) rfl (fun ds h => by match ds, h with | [_, _], _ => rfl) rfl Try.underlying4 affineGrid_law

theorem affineGrid_holds : Rows.AffineGridSaid :=
  OpenClaim.holds_of_wide 9 Try.f9 rfl rfl rfl rfl rfl rfl rfl ⟨rfl, rfl, rfl, rfl, rfl⟩ rfl rfl rfl rfl rfl (by kernel_rfl) Try.func9 (by kernel_rfl)
    (of_decide_eq_true (by kernel_rfl)) (by unfold Func.isWrapper; first | (rw [if_pos (by decide +kernel)]; kernel_rfl) | (rw [if_neg (by decide +kernel)]; exact ⟨rfl, rfl⟩))
    (fun os started H enc _ => affineGrid_lifted os started H enc)
end Go.Proofs.Ythnphjpjgcmdbaa
