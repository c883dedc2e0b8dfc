/- LabelMasks holds: for every input the law returns true and leaves what came in as it was. No condition. -/
import Derived.Test.YthdjcmppfpiimaaRows
import Derived.Test.YthdjcmppfpiimaaEnv
import Derived.Test.YthdjcmppfpiimaaU0
import Derived.Test.YthdjcmppfpiimaaK1
import Derived.ProofKit
namespace Go.Proofs.Ythdjcmppfpiimaa
open Go.AM Go.UM
set_option maxRecDepth 100000
theorem own : ownKnob Try.prog.godebug = none := by kernel_rfl
theorem laid : laidOutB Try.prog = true := by kernel_rfl

theorem labelMasks_law (avs : List AV) (hc : ctyL tt 6 Try.f6.params.toList avs) : PCalls Try.prog 6 avs (.bool true) := by
  refine opnL_elim (T := tt) (n := 6) (ts := [30, 3]) (K := fun avs => PCalls Try.prog 6 avs (.bool true)) ?_ hc
  intro m0 h0 m1 h1 m2 h2 m3 h3 m4 h4 m5 h5 m6 h6 m7 h7 l hl
  exact masks_c (R := R) n10 m0 m1 m2 m3 m4 m5 m6 m7 l ⟨h0.1, h1.1, h2.1, h3.1, h4.1, h5.1, h6.1, h7.1⟩

theorem labelMasks_lifted (os : Os) (started : os.Started) (H : Type) (enc : TypeId × Value → H) :
    ReturnsInHanded {} Try.checked os 6 .any (Rows.labelMasksSpec.pre6 enc Try.prog Try.f6 Rows.labelMasksRow.domain false) (Rows.labelMasksSpec.post enc Try.prog Try.f6 false true false false) :=
  lift_law (C := Try.checked) (T := tt) (n := 6) (tb := 4) hT.tt own started (by kernel_rfl) Try.func6
    (ChangeSpec.witness6 (enc := enc) (C := Try.checked) false ⟨#[], #[.agg #[.int .u8 0, .int .u8 0, .int .u8 0, .int .u8 0, .int .u8 0, .int .u8 0, .int .u8 0, .int .u8 0], .int .i64 0], []⟩ 8 (by kernel_rfl) (by kernel_rfl) (by kernel_rfl) (by kernel_rfl))
    laid (by kernel_rfl) rfl (fun ds h => by match ds, h with | [_, _], _ => rfl) rfl Try.underlying4 labelMasks_law

theorem labelMasks_holds : Rows.LabelMasksSaid :=
  OpenClaim.holds_of_wide 6 Try.f6 rfl rfl rfl rfl rfl rfl rfl ⟨rfl, rfl, rfl, rfl, rfl⟩ rfl rfl rfl rfl rfl (by kernel_rfl) Try.func6 (by kernel_rfl)
    (of_decide_eq_true (by kernel_rfl)) (by unfold Func.isWrapper; first | (rw [if_pos (by decide +kernel)]; kernel_rfl) | (rw [if_neg (by decide +kernel)]; exact ⟨rfl, rfl⟩))
    (fun os started H enc _ => labelMasks_lifted os started H enc)
end Go.Proofs.Ythdjcmppfpiimaa
