/- AffineMakes holds: for every input the law returns true and leaves what came in as it was. No condition. -/
import Derived.Test.YthnphjpjgcmdbaaRows
import Derived.Test.YthnphjpjgcmdbaaEnv
import Derived.Test.YthnphjpjgcmdbaaU1
import Derived.Test.YthnphjpjgcmdbaaK2
import Derived.ProofKit
namespace Go.Proofs.Ythnphjpjgcmdbaa
open Go.AM Go.UM
set_option maxRecDepth 100000
theorem own : ownKnob Try.prog.godebug = none := by kernel_rfl
theorem laid : laidOutB Try.prog = true := by kernel_rfl

theorem affineMakes_law (avs : List AV) (hc : ctyL tt 6 Try.f3.params.toList avs) : PCalls Try.prog 3 avs (.bool true) := by
  refine opnL_elim (T := tt) (n := 6) (ts := [22,23,26]) (K := fun avs => PCalls Try.prog 3 avs (.bool true)) ?_ hc
  intro ks _ hk ls _ hl
  intro vx hvx vy hvy vz hvz
  obtain ⟨k, rfl, -⟩ := openK (T := tt) (n := 4) (k := .i64) (by kernel_rfl) hk
  obtain ⟨l, rfl, -⟩ : ∃ l : List T3, ls = slc3 l ∧ ∀ x ∈ l, True := rows_map fun r hr => by
    refine opnK_elim (T := tt) 5 26 (fun r => ∃ x : T3, r = t3 x ∧ True) r ?_ (hl r hr)
    intro a _ b _ c _
    exact ⟨⟨a, b, c⟩, rfl, trivial⟩
  exact makes_law (R := R) n220 k l ⟨vx, vy, vz⟩

theorem affineMakes_lifted (os : Os) (started : os.Started) (H : Type) (enc : TypeId × Value → H) :
    ReturnsInHanded {} Try.checked os 3 .any (Rows.affineMakesSpec.pre6 enc Try.prog Try.f3 Rows.affineMakesRow.domain false) (Rows.affineMakesSpec.post enc Try.prog Try.f3 false true false false) :=
  lift_law (C := Try.checked) (T := tt) (n := 6) (tb := 4) hT.tt own started (by kernel_rfl) Try.func3
    (ChangeSpec.witness6 (enc := enc) (C := Try.checked) false ⟨#[], #[.slice none 0 0, .slice none 0 0, .agg #[.int .i64 0, .int .i64 0, .int .i64 0]], []⟩ 8 (by kernel_rfl) (by kernel_rfl) (by kernel_rfl) (by kernel_rfl))
    laid (by kernel_rfl) rfl (fun ds h => by match ds, h with | [_, _, _], _ => rfl) rfl Try.underlying4 affineMakes_law

theorem affineMakes_holds : Rows.AffineMakesSaid :=
  OpenClaim.holds_of_wide 3 Try.f3 rfl rfl rfl rfl rfl rfl rfl ⟨rfl, rfl, rfl, rfl, rfl⟩ rfl rfl rfl rfl rfl (by kernel_rfl) Try.func3 (by kernel_rfl)
    (of_decide_eq_true (by kernel_rfl)) (by unfold Func.isWrapper; first | (rw [if_pos (by decide +kernel)]; kernel_rfl) | (rw [if_neg (by decide +kernel)]; exact ⟨rfl, rfl⟩))
    (fun os started H enc _ => affineMakes_lifted os started H enc)
end Go.Proofs.Ythnphjpjgcmdbaa
