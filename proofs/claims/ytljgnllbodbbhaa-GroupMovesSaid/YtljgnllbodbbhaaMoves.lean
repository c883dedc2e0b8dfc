/- GroupMoves holds: for every input the law returns true and leaves what came in as it was. No condition. -/
import Derived.Test.YtljgnllbodbbhaaRows
import Derived.Test.YtljgnllbodbbhaaEnv
import Derived.Test.YtljgnllbodbbhaaU1
import Derived.Test.YtljgnllbodbbhaaK3
import Derived.ProofKit
namespace Go.Proofs.Ytljgnllbodbbhaa
open Go.AM Go.UM
set_option maxRecDepth 100000
theorem own : ownKnob Try.prog.godebug = none := by kernel_rfl
theorem laid : laidOutB Try.prog = true := by kernel_rfl

theorem groupMoves_law (avs : List AV) (hc : ctyL tt 6 Try.f3.params.toList avs) : PCalls Try.prog 3 avs (.bool true) := by
  refine opnL_elim (T := tt) (n := 6) (ts := [22,24]) (K := fun avs => PCalls Try.prog 3 avs (.bool true)) ?_ hc
  intro ls _ hl
  obtain ⟨l, rfl, hli⟩ : ∃ l : List Gr, ls = slG l ∧ ∀ g ∈ l, g.t.I := rows_map fun r hr => by
    refine opnK_elim (T := tt) 5 41 (fun r => ∃ x : Gr, r = x.row ∧ x.t.I) r ?_ (hl r hr)
    intro p _ am0 ham0 am1 ham1 am2 ham2 am3 ham3 am4 ham4 am5 ham5 am6 ham6 am7 ham7 am8 ham8 ata hata atb hatb atc hatc ms _ mt _ tx _
    exact ⟨⟨p, ⟨am0, am1, am2, am3, am4, am5, am6, am7, am8, ⟨ata, atb, atc⟩⟩, ms, mt, tx⟩, rfl, ⟨ham0, ham1, ham2, ham3, ham4, ham5, ham6, ham7, ham8, ⟨hata, hatb, hatc⟩⟩⟩
  intro x hx y hy z hz
  exact moves41_c (R := R) n325 l hli ⟨x, y, z⟩ ⟨hx, hy, hz⟩

theorem groupMoves_lifted (os : Os) (started : os.Started) (H : Type) (enc : TypeId × Value → H) :
    ReturnsInHanded {} Try.checked os 3 .any (Rows.groupMovesSpec.pre6 enc Try.prog Try.f3 Rows.groupMovesRow.domain false) (Rows.groupMovesSpec.post enc Try.prog Try.f3 false true false false) :=
  lift_law (C := Try.checked) (T := tt) (n := 6) (tb := 4) hT.tt own started (by kernel_rfl) Try.func3
    (ChangeSpec.witness6 (enc := enc) (C := Try.checked) false ⟨#[], #[.slice none 0 0, .agg #[.int .i16 0, .int .i16 0, .int .i16 0]], []⟩ 8 (by kernel_rfl) (by kernel_rfl) (by kernel_rfl) (by kernel_rfl))
    laid (by kernel_rfl) rfl (fun ds h => by match ds, h with | [_, _], _ => rfl) rfl Try.underlying4 groupMoves_law

theorem groupMoves_holds : Rows.GroupMovesSaid :=
  OpenClaim.holds_of_wide 3 Try.f3 rfl rfl rfl rfl rfl rfl rfl ⟨rfl, rfl, rfl, rfl, rfl⟩ rfl rfl rfl rfl rfl (by kernel_rfl) Try.func3 (by kernel_rfl)
    (of_decide_eq_true (by kernel_rfl)) (by unfold Func.isWrapper; first | (rw [if_pos (by decide +kernel)]; kernel_rfl) | (rw [if_neg (by decide +kernel)]; exact ⟨rfl, rfl⟩))
    (fun os started H enc _ => groupMoves_lifted os started H enc)
end Go.Proofs.Ytljgnllbodbbhaa
