/- LabelOrder holds: for every input the law returns true and leaves what came in as it was. No condition. -/
import Derived.Test.YthdjcmppfpiimaaRows
import Derived.Test.YthdjcmppfpiimaaEnv
import Derived.Test.YthdjcmppfpiimaaU0
import Derived.Test.YthdjcmppfpiimaaK1
import Derived.ProofKit
namespace Go.Proofs.Ythdjcmppfpiimaa
open Go.AM Go.UM
set_option maxRecDepth 100000
theorem own : ownKnob Try.prog.godebug = none := by kernel_rfl
theorem laid : laidOutB Try.prog = true := by kernel_rfl

theorem labelOrder_law (avs : List AV) (hc : ctyL tt 6 Try.f5.params.toList avs) : PCalls Try.prog 5 avs (.bool true) := by
  refine opnL_elim (T := tt) (n := 6) (ts := [23, 23, 23]) (K := fun avs => PCalls Try.prog 5 avs (.bool true)) ?_ hc
  intro x hx y hy z hz
  obtain ⟨x, rfl⟩ := bits_of hx
  obtain ⟨y, rfl⟩ := bits_of hy
  obtain ⟨z, rfl⟩ := bits_of hz
  exact order_c (R := R) n9 x y z

theorem labelOrder_lifted (os : Os) (started : os.Started) (H : Type) (enc : TypeId × Value → H) :
    ReturnsInHanded {} Try.checked os 5 .any (Rows.labelOrderSpec.pre6 enc Try.prog Try.f5 Rows.labelOrderRow.domain false) (Rows.labelOrderSpec.post enc Try.prog Try.f5 false true false false) :=
  lift_law (C := Try.checked) (T := tt) (n := 6) (tb := 4) hT.tt own started (by kernel_rfl) Try.func5
    (ChangeSpec.witness6 (enc := enc) (C := Try.checked) false ⟨#[], #[.int .u32 0, .int .u32 0, .int .u32 0], []⟩ 8 (by kernel_rfl) (by kernel_rfl) (by kernel_rfl) (by kernel_rfl))
    laid (by kernel_rfl) rfl (fun ds h => by match ds, h with | [_, _, _], _ => rfl) rfl Try.underlying4 labelOrder_law

theorem labelOrder_holds : Rows.LabelOrderSaid :=
  OpenClaim.holds_of_wide 5 Try.f5 rfl rfl rfl rfl rfl rfl rfl ⟨rfl, rfl, rfl, rfl, rfl⟩ rfl rfl rfl rfl rfl (by kernel_rfl) Try.func5 (by kernel_rfl)
    (of_decide_eq_true (by kernel_rfl)) (by unfold Func.isWrapper; first | (rw [if_pos (by decide +kernel)]; kernel_rfl) | (rw [if_neg (by decide +kernel)]; exact ⟨rfl, rfl⟩))
    (fun os started H enc _ => labelOrder_lifted os started H enc)
end Go.Proofs.Ythdjcmppfpiimaa
