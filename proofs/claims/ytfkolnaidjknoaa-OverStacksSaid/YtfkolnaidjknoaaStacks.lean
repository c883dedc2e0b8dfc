/- OverStacks holds: for every input the law returns true and leaves what came in as it was. No condition. -/
import Derived.Test.YtfkolnaidjknoaaRows
import Derived.Test.YtfkolnaidjknoaaEnv
import Derived.Test.YtfkolnaidjknoaaU1
import Derived.Test.YtfkolnaidjknoaaK2
import Derived.ProofKit
namespace Go.Proofs.Ytfkolnaidjknoaa
open Go.AM Go.UM
set_option maxRecDepth 100000
theorem own : ownKnob Try.prog.godebug = none := by kernel_rfl
theorem laid : laidOutB Try.prog = true := by kernel_rfl

theorem overStacks_law (avs : List AV) (hc : ctyL tt 6 Try.f7.params.toList avs) : PCalls Try.prog 7 avs (.bool true) := by
  refine opnL_elim (T := tt) (n := 6) (ts := [50,51]) (K := fun avs => PCalls Try.prog 7 avs (.bool true)) ?_ hc
  intro is _ his
  obtain ⟨l, rfl, -⟩ : ∃ l : List Im, is = slI l ∧ ∀ x ∈ l, True := rows_map fun r hr => by
    refine opnK_elim (T := tt) 5 30 (fun r => ∃ x : Im, r = x.row ∧ True) r ?_ (his r hr)
    intro aw _ ah _ abe _ habe aal _ haal ade _ hade ano _ hano aas _ haas ala _ hala
    obtain ⟨abe, rfl, -⟩ : ∃ l : List T3, abe = slc3 l ∧ ∀ x ∈ l, True := rows_map fun r hr => by
      refine opnK_elim (T := tt) 3 43 (fun r => ∃ x : T3, r = t3 x ∧ True) r ?_ (habe r hr)
      intro a _ b _ c _
      exact ⟨⟨a, b, c⟩, rfl, trivial⟩
    obtain ⟨ano, rfl, -⟩ : ∃ l : List T3, ano = slc3 l ∧ ∀ x ∈ l, True := rows_map fun r hr => by
      refine opnK_elim (T := tt) 3 43 (fun r => ∃ x : T3, r = t3 x ∧ True) r ?_ (hano r hr)
      intro a _ b _ c _
      exact ⟨⟨a, b, c⟩, rfl, trivial⟩
    obtain ⟨aal, rfl, -⟩ := openK (T := tt) (n := 2) (k := .i64) (by kernel_rfl) haal
    obtain ⟨ade, rfl, -⟩ := openK (T := tt) (n := 2) (k := .i64) (by kernel_rfl) hade
    obtain ⟨aas, rfl, -⟩ := openK (T := tt) (n := 2) (k := .i64) (by kernel_rfl) haas
    obtain ⟨ala, rfl, -⟩ := openK (T := tt) (n := 2) (k := .i64) (by kernel_rfl) hala
    exact ⟨⟨aw, ah, abe, aal, ade, ano, aas, ala⟩, rfl, trivial⟩
  intro x _ y _
  exact stacks_law (R := R) n126 l x y

theorem overStacks_lifted (os : Os) (started : os.Started) (H : Type) (enc : TypeId × Value → H) :
    ReturnsInHanded {} Try.checked os 7 .any (Rows.overStacksSpec.pre6 enc Try.prog Try.f7 Rows.overStacksRow.domain false) (Rows.overStacksSpec.post enc Try.prog Try.f7 false true false false) :=
  lift_law (C := Try.checked) (T := tt) (n := 6) (tb := 4) hT.tt own started (by kernel_rfl) Try.func7
    (ChangeSpec.witness6 (enc := enc) (C := Try.checked) false ⟨#[], #[.slice none 0 0, .agg #[.int .i64 0, .int .i64 0]], []⟩ 8 (by kernel_rfl) (by kernel_rfl) (by kernel_rfl) (by kernel_rfl))
    laid (by kernel_rfl) rfl (fun ds h => by match ds, h with | [_, _], _ => rfl) rfl Try.underlying4 overStacks_law

theorem overStacks_holds : Rows.OverStacksSaid :=
  OpenClaim.holds_of_wide 7 Try.f7 rfl rfl rfl rfl rfl rfl rfl ⟨rfl, rfl, rfl, rfl, rfl⟩ rfl rfl rfl rfl rfl (by kernel_rfl) Try.func7 (by kernel_rfl)
    (of_decide_eq_true (by kernel_rfl)) (by unfold Func.isWrapper; first | (rw [if_pos (by decide +kernel)]; kernel_rfl) | (rw [if_neg (by decide +kernel)]; exact ⟨rfl, rfl⟩))
    (fun os started H enc _ => overStacks_lifted os started H enc)
end Go.Proofs.Ytfkolnaidjknoaa
