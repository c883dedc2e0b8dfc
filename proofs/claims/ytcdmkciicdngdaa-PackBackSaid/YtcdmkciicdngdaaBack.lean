/- PackBack holds: for every input the law returns true and leaves what came in as it was. No condition. -/
import Derived.Test.YtcdmkciicdngdaaRows
import Derived.Test.YtcdmkciicdngdaaEnv
import Derived.Test.YtcdmkciicdngdaaU2
import Derived.Test.YtcdmkciicdngdaaK2
import Derived.ProofKit
namespace Go.Proofs.Ytcdmkciicdngdaa
open Go.AM Go.UM
set_option maxRecDepth 100000
theorem own : ownKnob Try.prog.godebug = none := by kernel_rfl
theorem laid : laidOutB Try.prog = true := by kernel_rfl

theorem packBack_law (avs : List AV) (hc : ctyL tt 6 Try.f6.params.toList avs) : PCalls Try.prog 6 avs (.bool true) := by
  refine opnL_elim (T := tt) (n := 6) (ts := [47,27]) (K := fun avs => PCalls Try.prog 6 avs (.bool true)) ?_ hc
  intro ps _ hps es _ he
  obtain ⟨l, rfl, -⟩ : ∃ l : List Pl, ps = slP l ∧ ∀ x ∈ l, True := rows_map fun r hr => by
    refine opnK_elim (T := tt) 5 26 (fun r => ∃ x : Pl, r = x.row ∧ True) r ?_ (hps r hr)
    intro w _ h _ d _ nm _ ds _ hds
    obtain ⟨m, rfl, -⟩ := openK (T := tt) (n := 2) (k := .i64) (by kernel_rfl) hds
    exact ⟨⟨w, h, d, nm, m⟩, rfl, trivial⟩
  obtain ⟨b, rfl⟩ := open8 (T := tt) (n := 4) (by kernel_rfl) he
  exact pback39_law (R := R) n178 l b

theorem packBack_lifted (os : Os) (started : os.Started) (H : Type) (enc : TypeId × Value → H) :
    ReturnsInHanded {} Try.checked os 6 .any (Rows.packBackSpec.pre6 enc Try.prog Try.f6 Rows.packBackRow.domain false) (Rows.packBackSpec.post enc Try.prog Try.f6 false true false false) :=
  lift_law (C := Try.checked) (T := tt) (n := 6) (tb := 4) hT.tt own started (by kernel_rfl) Try.func6
    (ChangeSpec.witness6 (enc := enc) (C := Try.checked) false ⟨#[], #[.slice none 0 0, .slice none 0 0], []⟩ 8 (by kernel_rfl) (by kernel_rfl) (by kernel_rfl) (by kernel_rfl))
    laid (by kernel_rfl) rfl (fun ds h => by match ds, h with | [_, _], _ => rfl) rfl Try.underlying4 packBack_law

theorem packBack_holds : Rows.PackBackSaid :=
  OpenClaim.holds_of_wide 6 Try.f6 rfl rfl rfl rfl rfl rfl rfl ⟨rfl, rfl, rfl, rfl, rfl⟩ rfl rfl rfl rfl rfl (by kernel_rfl) Try.func6 (by kernel_rfl)
    (of_decide_eq_true (by kernel_rfl)) (by unfold Func.isWrapper; first | (rw [if_pos (by decide +kernel)]; kernel_rfl) | (rw [if_neg (by decide +kernel)]; exact ⟨rfl, rfl⟩))
    (fun os started H enc _ => packBack_lifted os started H enc)
end Go.Proofs.Ytcdmkciicdngdaa
