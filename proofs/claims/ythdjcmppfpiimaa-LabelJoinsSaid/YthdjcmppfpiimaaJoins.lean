/- LabelJoins holds: for every input the law returns true and leaves what came in as it was. No condition. -/
import Derived.Test.YthdjcmppfpiimaaRows
import Derived.Test.YthdjcmppfpiimaaEnv
import Derived.Test.YthdjcmppfpiimaaU0
import Derived.Test.YthdjcmppfpiimaaK1
import Derived.ProofKit
namespace Go.Proofs.Ythdjcmppfpiimaa
open Go.AM Go.UM
set_option maxRecDepth 100000
theorem own : ownKnob Try.prog.godebug = none := by kernel_rfl
theorem laid : laidOutB Try.prog = true := by kernel_rfl

theorem labelJoins_law (avs : List AV) (hc : ctyL tt 6 Try.f3.params.toList avs) : PCalls Try.prog 3 avs (.bool true) := by
  refine opnL_elim (T := tt) (n := 6) (ts := [22, 23, 23]) (K := fun avs => PCalls Try.prog 3 avs (.bool true)) ?_ hc
  intro es hn he x hx y hy
  obtain ⟨l, rfl, -⟩ : ∃ l : List (BitVec 32), es = vs32 l ∧ ∀ v ∈ l, True := rows_map fun r hr => by
    obtain ⟨x, rfl, hx⟩ := he r hr
    obtain ⟨v, rfl⟩ := bits_of (wf_in hx)
    exact ⟨v, rfl, trivial⟩
  obtain ⟨x, rfl⟩ := bits_of hx
  obtain ⟨y, rfl⟩ := bits_of hy
  exact joins_c (R := R) n3 l x y

theorem labelJoins_lifted (os : Os) (started : os.Started) (H : Type) (enc : TypeId × Value → H) :
    ReturnsInHanded {} Try.checked os 3 .any (Rows.labelJoinsSpec.pre6 enc Try.prog Try.f3 Rows.labelJoinsRow.domain false) (Rows.labelJoinsSpec.post enc Try.prog Try.f3 false true false false) :=
  lift_law (C := Try.checked) (T := tt) (n := 6) (tb := 4) hT.tt own started (by kernel_rfl) Try.func3
    (ChangeSpec.witness6 (enc := enc) (C := Try.checked) false ⟨#[], #[.slice none 0 0, .int .u32 0, .int .u32 0], []⟩ 8 (by kernel_rfl) (by kernel_rfl) (by kernel_rfl) (by kernel_rfl))
    laid (by kernel_rfl) rfl (fun ds h => by match ds, h with | [_, _, _], _ => rfl) rfl Try.underlying4 labelJoins_law

theorem labelJoins_holds : Rows.LabelJoinsSaid :=
  OpenClaim.holds_of_wide 3 Try.f3 rfl rfl rfl rfl rfl rfl rfl ⟨rfl, rfl, rfl, rfl, rfl⟩ rfl rfl rfl rfl rfl (by kernel_rfl) Try.func3 (by kernel_rfl)
    (of_decide_eq_true (by kernel_rfl)) (by unfold Func.isWrapper; first | (rw [if_pos (by decide +kernel)]; kernel_rfl) | (rw [if_neg (by decide +kernel)]; exact ⟨rfl, rfl⟩))
    (fun os started H enc _ => labelJoins_lifted os started H enc)
end Go.Proofs.Ythdjcmppfpiimaa
