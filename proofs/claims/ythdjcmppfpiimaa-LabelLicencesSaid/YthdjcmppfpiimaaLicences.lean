/- LabelLicences holds: for every input the law returns true and leaves what came in as it was. No condition. -/
import Derived.Test.YthdjcmppfpiimaaRows
import Derived.Test.YthdjcmppfpiimaaEnv
import Derived.Test.YthdjcmppfpiimaaU1
import Derived.Test.YthdjcmppfpiimaaK1
import Derived.ProofKit
namespace Go.Proofs.Ythdjcmppfpiimaa
open Go.AM Go.UM
set_option maxRecDepth 100000
theorem own : ownKnob Try.prog.godebug = none := by kernel_rfl
theorem laid : laidOutB Try.prog = true := by kernel_rfl

theorem labelLicences_law (avs : List AV) (hc : ctyL tt 6 Try.f7.params.toList avs) : PCalls Try.prog 7 avs (.bool true) := by
  refine opnL_elim (T := tt) (n := 6) (ts := [23, 23, 33]) (K := fun avs => PCalls Try.prog 7 avs (.bool true)) ?_ hc
  intro f hf z hz es hn he
  obtain ⟨l, rfl, -⟩ : ∃ l : List Mf, es = mfs l ∧ ∀ v ∈ l, True := rows_map fun r hr => by
    refine opnK_elim (T := tt) 5 38 (fun r => ∃ x : Mf, r = x.row ∧ True) r ?_ (he r hr)
    intro a0 _ a1 _ a2 _ a3 _ a4 _ a5 _ a6 _ a7 _ a8 _ a9 _ a10 _ a11 _ a12 _ a13 _ a14 _
    exact ⟨⟨a0, a1, a2, a3, a4, a5, a6, a7, a8, a9, a10, a11, a12, a13, a14⟩, rfl, trivial⟩
  exact licences_c (R := R) n13 f z l

theorem labelLicences_lifted (os : Os) (started : os.Started) (H : Type) (enc : TypeId × Value → H) :
    ReturnsInHanded {} Try.checked os 7 .any (Rows.labelLicencesSpec.pre6 enc Try.prog Try.f7 Rows.labelLicencesRow.domain false) (Rows.labelLicencesSpec.post enc Try.prog Try.f7 false true false false) :=
  lift_law (C := Try.checked) (T := tt) (n := 6) (tb := 4) hT.tt own started (by kernel_rfl) Try.func7
    (ChangeSpec.witness6 (enc := enc) (C := Try.checked) false ⟨#[], #[.int .u32 0, .int .u32 0, .slice none 0 0], []⟩ 8 (by kernel_rfl) (by kernel_rfl) (by kernel_rfl) (by kernel_rfl))
    laid (by kernel_rfl) rfl (fun ds h => by match ds, h with | [_, _, _], _ => rfl) rfl Try.underlying4 labelLicences_law

theorem labelLicences_holds : Rows.LabelLicencesSaid :=
  OpenClaim.holds_of_wide 7 Try.f7 rfl rfl rfl rfl rfl rfl rfl ⟨rfl, rfl, rfl, rfl, rfl⟩ rfl rfl rfl rfl rfl (by kernel_rfl) Try.func7 (by kernel_rfl)
    (of_decide_eq_true (by kernel_rfl)) (by unfold Func.isWrapper; first | (rw [if_pos (by decide +kernel)]; kernel_rfl) | (rw [if_neg (by decide +kernel)]; exact ⟨rfl, rfl⟩))
    (fun os started H enc _ => labelLicences_lifted os started H enc)
end Go.Proofs.Ythdjcmppfpiimaa
