/- OverBack holds: for every input the law returns true and leaves what came in as it was. No condition. -/
import Derived.Test.YtfkolnaidjknoaaRows
import Derived.Test.YtfkolnaidjknoaaEnv
import Derived.Test.YtfkolnaidjknoaaU1
import Derived.Test.YtfkolnaidjknoaaK2
import Derived.ProofKit
namespace Go.Proofs.Ytfkolnaidjknoaa
open Go.AM Go.UM
set_option maxRecDepth 100000
theorem own : ownKnob Try.prog.godebug = none := by kernel_rfl
theorem laid : laidOutB Try.prog = true := by kernel_rfl

theorem overBack_law (avs : List AV) (hc : ctyL tt 6 Try.f9.params.toList avs) : PCalls Try.prog 9 avs (.bool true) := by
  refine opnL_elim (T := tt) (n := 6) (ts := [30,30,51]) (K := fun avs => PCalls Try.prog 9 avs (.bool true)) ?_ hc
  intro aw _ ah _ abe _ habe aal _ haal ade _ hade ano _ hano aas _ haas ala _ hala
  obtain ⟨abe, rfl, -⟩ : ∃ l : List T3, abe = slc3 l ∧ ∀ x ∈ l, True := rows_map fun r hr => by
    refine opnK_elim (T := tt) 4 43 (fun r => ∃ x : T3, r = t3 x ∧ True) r ?_ (habe r hr)
    intro a _ b _ c _
    exact ⟨⟨a, b, c⟩, rfl, trivial⟩
  obtain ⟨ano, rfl, -⟩ : ∃ l : List T3, ano = slc3 l ∧ ∀ x ∈ l, True := rows_map fun r hr => by
    refine opnK_elim (T := tt) 4 43 (fun r => ∃ x : T3, r = t3 x ∧ True) r ?_ (hano r hr)
    intro a _ b _ c _
    exact ⟨⟨a, b, c⟩, rfl, trivial⟩
  obtain ⟨aal, rfl, -⟩ := openK (T := tt) (n := 3) (k := .i64) (by kernel_rfl) haal
  obtain ⟨ade, rfl, -⟩ := openK (T := tt) (n := 3) (k := .i64) (by kernel_rfl) hade
  obtain ⟨aas, rfl, -⟩ := openK (T := tt) (n := 3) (k := .i64) (by kernel_rfl) haas
  obtain ⟨ala, rfl, -⟩ := openK (T := tt) (n := 3) (k := .i64) (by kernel_rfl) hala
  intro bw _ bh _ bbe _ hbbe bal _ hbal bde _ hbde bno _ hbno bas _ hbas bla _ hbla
  obtain ⟨bbe, rfl, -⟩ : ∃ l : List T3, bbe = slc3 l ∧ ∀ x ∈ l, True := rows_map fun r hr => by
    refine opnK_elim (T := tt) 4 43 (fun r => ∃ x : T3, r = t3 x ∧ True) r ?_ (hbbe r hr)
    intro a _ b _ c _
    exact ⟨⟨a, b, c⟩, rfl, trivial⟩
  obtain ⟨bno, rfl, -⟩ : ∃ l : List T3, bno = slc3 l ∧ ∀ x ∈ l, True := rows_map fun r hr => by
    refine opnK_elim (T := tt) 4 43 (fun r => ∃ x : T3, r = t3 x ∧ True) r ?_ (hbno r hr)
    intro a _ b _ c _
    exact ⟨⟨a, b, c⟩, rfl, trivial⟩
  obtain ⟨bal, rfl, -⟩ := openK (T := tt) (n := 3) (k := .i64) (by kernel_rfl) hbal
  obtain ⟨bde, rfl, -⟩ := openK (T := tt) (n := 3) (k := .i64) (by kernel_rfl) hbde
  obtain ⟨bas, rfl, -⟩ := openK (T := tt) (n := 3) (k := .i64) (by kernel_rfl) hbas
  obtain ⟨bla, rfl, -⟩ := openK (T := tt) (n := 3) (k := .i64) (by kernel_rfl) hbla
  intro x _ y _
  exact back_law (R := R) n133 ⟨aw, ah, abe, aal, ade, ano, aas, ala⟩ ⟨bw, bh, bbe, bal, bde, bno, bas, bla⟩ x y

theorem overBack_lifted (os : Os) (started : os.Started) (H : Type) (enc : TypeId × Value → H) :
    ReturnsInHanded {} Try.checked os 9 .any (Rows.overBackSpec.pre6 enc Try.prog Try.f9 Rows.overBackRow.domain false) (Rows.overBackSpec.post enc Try.prog Try.f9 false true false false) :=
  lift_law (C := Try.checked) (T := tt) (n := 6) (tb := 4) hT.tt own started (by kernel_rfl) Try.func9
    (ChangeSpec.witness6 (enc := enc) (C := Try.checked) false ⟨#[], #[.agg #[.int .i64 0, .int .i64 0, .slice none 0 0, .slice none 0 0, .slice none 0 0, .slice none 0 0, .slice none 0 0, .slice none 0 0], .agg #[.int .i64 0, .int .i64 0, .slice none 0 0, .slice none 0 0, .slice none 0 0, .slice none 0 0, .slice none 0 0, .slice none 0 0], .agg #[.int .i64 0, .int .i64 0]], []⟩ 8 (by kernel_rfl) (by kernel_rfl) (by kernel_rfl) (by kernel_rfl))
    laid (by kernel_rfl) rfl (fun ds h => by match ds, h with | [_, _, _], _ => rfl) rfl Try.underlying4 overBack_law

theorem overBack_holds : Rows.OverBackSaid :=
  OpenClaim.holds_of_wide 9 Try.f9 rfl rfl rfl rfl rfl rfl rfl ⟨rfl, rfl, rfl, rfl, rfl⟩ rfl rfl rfl rfl rfl (by kernel_rfl) Try.func9 (by kernel_rfl)
    (of_decide_eq_true (by kernel_rfl)) (by unfold Func.isWrapper; first | (rw [if_pos (by decide +kernel)]; kernel_rfl) | (rw [if_neg (by decide +kernel)]; exact ⟨rfl, rfl⟩))
    (fun os started H enc _ => overBack_lifted os started H enc)
end Go.Proofs.Ytfkolnaidjknoaa
