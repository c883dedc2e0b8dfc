/- MeshBack holds: for every input the law returns true and leaves what came in as it was. No condition. -/
import Derived.Test.YtefnfebodlkldaaRows
import Derived.Test.YtefnfebodlkldaaEnv
import Derived.Test.YtefnfebodlkldaaU2
import Derived.Test.YtefnfebodlkldaaK2
import Derived.ProofKit
namespace Go.Proofs.Ytefnfebodlkldaa
open Go.AM Go.UM
set_option maxRecDepth 100000
theorem own : ownKnob Try.prog.godebug = none := by kernel_rfl
theorem laid : laidOutB Try.prog = true := by kernel_rfl

theorem meshBack_law (avs : List AV) (hc : ctyL tt 6 Try.f7.params.toList avs) : PCalls Try.prog 7 avs (.bool true) := by
  refine opnL_elim (T := tt) (n := 6) (ts := [26,38]) (K := fun avs => PCalls Try.prog 7 avs (.bool true)) ?_ hc
  intro vs hv1 hv us hu1 hu ts ht1 ht
  obtain ⟨v, rfl, -⟩ : ∃ l : List T3, vs = slc3 l ∧ ∀ x ∈ l, True := rows_map fun r hr => by
    refine opnK_elim (T := tt) 4 29 (fun r => ∃ x : T3, r = t3 x ∧ True) r ?_ (hv r hr)
    intro a _ b _ c _
    exact ⟨⟨a, b, c⟩, rfl, trivial⟩
  obtain ⟨u, rfl, -⟩ : ∃ l : List (Int × Int), us = slc2 l ∧ ∀ x ∈ l, True := rows_map fun r hr => by
    refine opnK_elim (T := tt) 4 46 (fun r => ∃ x : Int × Int, r = p2 x ∧ True) r ?_ (hu r hr)
    intro a _ b _
    exact ⟨(a, b), rfl, trivial⟩
  obtain ⟨t, rfl, -⟩ : ∃ l : List T3, ts = slc3 l ∧ ∀ x ∈ l, True := rows_map fun r hr => by
    refine opnK_elim (T := tt) 4 36 (fun r => ∃ x : T3, r = t3 x ∧ True) r ?_ (ht r hr)
    intro a _ b _ c _
    exact ⟨⟨a, b, c⟩, rfl, trivial⟩
  intro es _ he
  obtain ⟨b, rfl⟩ := open8 (T := tt) (n := 4) (by kernel_rfl) he
  exact mback_law (R := R) n205 ⟨v, u, t⟩ b

theorem meshBack_lifted (os : Os) (started : os.Started) (H : Type) (enc : TypeId × Value → H) :
    ReturnsInHanded {} Try.checked os 7 .any (Rows.meshBackSpec.pre6 enc Try.prog Try.f7 Rows.meshBackRow.domain false) (Rows.meshBackSpec.post enc Try.prog Try.f7 false true false false) :=
  lift_law (C := Try.checked) (T := tt) (n := 6) (tb := 4) hT.tt own started (by kernel_rfl) Try.func7
    (ChangeSpec.witness6 (enc := enc) (C := Try.checked) false ⟨#[], #[.agg #[.slice none 0 0, .slice none 0 0, .slice none 0 0], .slice none 0 0], []⟩ 8 (by kernel_rfl) (by kernel_rfl) (by kernel_rfl) (by kernel_rfl))
    laid (by kernel_rfl) rfl (fun ds h => by match ds, h with | [_, _], _ => rfl) rfl Try.underlying4 meshBack_law

theorem meshBack_holds : Rows.MeshBackSaid :=
  OpenClaim.holds_of_wide 7 Try.f7 rfl rfl rfl rfl rfl rfl rfl ⟨rfl, rfl, rfl, rfl, rfl⟩ rfl rfl rfl rfl rfl (by kernel_rfl) Try.func7 (by kernel_rfl)
    (of_decide_eq_true (by kernel_rfl)) (by unfold Func.isWrapper; first | (rw [if_pos (by decide +kernel)]; kernel_rfl) | (rw [if_neg (by decide +kernel)]; exact ⟨rfl, rfl⟩))
    (fun os started H enc _ => meshBack_lifted os started H enc)
end Go.Proofs.Ytefnfebodlkldaa
