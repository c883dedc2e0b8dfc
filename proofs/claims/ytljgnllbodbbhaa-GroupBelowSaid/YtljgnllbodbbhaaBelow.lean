/- GroupBelow holds: for every input the law returns true and leaves what came in as it was. No condition. -/
import Derived.Test.YtljgnllbodbbhaaRows
import Derived.Test.YtljgnllbodbbhaaEnv
import Derived.Test.YtljgnllbodbbhaaU1
import Derived.Test.YtljgnllbodbbhaaK3
import Derived.ProofKit
namespace Go.Proofs.Ytljgnllbodbbhaa
open Go.AM Go.UM
set_option maxRecDepth 100000
theorem own : ownKnob Try.prog.godebug = none := by kernel_rfl
theorem laid : laidOutB Try.prog = true := by kernel_rfl

theorem groupBelow_law (avs : List AV) (hc : ctyL tt 6 Try.f5.params.toList avs) : PCalls Try.prog 5 avs (.bool true) := by
  refine opnL_elim (T := tt) (n := 6) (ts := [22,3]) (K := fun avs => PCalls Try.prog 5 avs (.bool true)) ?_ hc
  intro ls _ hl
  obtain ⟨l, rfl, hli⟩ : ∃ l : List Gr, ls = slG l ∧ ∀ g ∈ l, g.t.I := rows_map fun r hr => by
    refine opnK_elim (T := tt) 5 41 (fun r => ∃ x : Gr, r = x.row ∧ x.t.I) r ?_ (hl r hr)
    intro p _ am0 ham0 am1 ham1 am2 ham2 am3 ham3 am4 ham4 am5 ham5 am6 ham6 am7 ham7 am8 ham8 ata hata atb hatb atc hatc ms _ mt _ tx _
    exact ⟨⟨p, ⟨am0, am1, am2, am3, am4, am5, am6, am7, am8, ⟨ata, atb, atc⟩⟩, ms, mt, tx⟩, rfl, ⟨ham0, ham1, ham2, ham3, ham4, ham5, ham6, ham7, ham8, ⟨hata, hatb, hatc⟩⟩⟩
  intro i _
  exact below41_c (R := R) n338 l hli i

theorem groupBelow_lifted (os : Os) (started : os.Started) (H : Type) (enc : TypeId × Value → H) :
    ReturnsInHanded {} Try.checked os 5 .any (Rows.groupBelowSpec.pre6 enc Try.prog Try.f5 Rows.groupBelowRow.domain false) (Rows.groupBelowSpec.post enc Try.prog Try.f5 false true false false) :=
  lift_law (C := Try.checked) (T := tt) (n := 6) (tb := 4) hT.tt own started (by kernel_rfl) Try.func5
    (ChangeSpec.witness6 (enc := enc) (C := Try.checked) false ⟨#[], #[.slice none 0 0, .int .i64 0], []⟩ 8 (by kernel_rfl) (by kernel_rfl) (by kernel_rfl) (by kernel_rfl))
    laid (by kernel_rfl) rfl (fun ds h => by match ds, h with | [_, _], _ => rfl) rfl Try.underlying4 groupBelow_law

theorem groupBelow_holds : Rows.GroupBelowSaid :=
  OpenClaim.holds_of_wide 5 Try.f5 rfl rfl rfl rfl rfl rfl rfl ⟨rfl, rfl, rfl, rfl, rfl⟩ rfl rfl rfl rfl rfl (by kernel_rfl) Try.func5 (by kernel_rfl)
    (of_decide_eq_true (by kernel_rfl)) (by unfold Func.isWrapper; first | (rw [if_pos (by decide +kernel)]; kernel_rfl) | (rw [if_neg (by decide +kernel)]; exact ⟨rfl, rfl⟩))
    (fun os started H enc _ => groupBelow_lifted os started H enc)
end Go.Proofs.Ytljgnllbodbbhaa
