/- GroupNames holds: for every input the law returns true and leaves what came in as it was. No condition. -/
import Derived.Test.YtljgnllbodbbhaaRows
import Derived.Test.YtljgnllbodbbhaaEnv
import Derived.Test.YtljgnllbodbbhaaU1
import Derived.Test.YtljgnllbodbbhaaK3
import Derived.ProofKit
namespace Go.Proofs.Ytljgnllbodbbhaa
open Go.AM Go.UM
set_option maxRecDepth 100000
theorem own : ownKnob Try.prog.godebug = none := by kernel_rfl
theorem laid : laidOutB Try.prog = true := by kernel_rfl

theorem groupNames_law (avs : List AV) (hc : ctyL tt 6 Try.f7.params.toList avs) : PCalls Try.prog 7 avs (.bool true) := by
  refine opnL_elim (T := tt) (n := 6) (ts := [22,72]) (K := fun avs => PCalls Try.prog 7 avs (.bool true)) ?_ hc
  intro ls _ hl
  obtain ⟨l, rfl, hli⟩ : ∃ l : List Gr, ls = slG l ∧ ∀ g ∈ l, g.t.I := rows_map fun r hr => by
    refine opnK_elim (T := tt) 5 41 (fun r => ∃ x : Gr, r = x.row ∧ x.t.I) r ?_ (hl r hr)
    intro p _ am0 ham0 am1 ham1 am2 ham2 am3 ham3 am4 ham4 am5 ham5 am6 ham6 am7 ham7 am8 ham8 ata hata atb hatb atc hatc ms _ mt _ tx _
    exact ⟨⟨p, ⟨am0, am1, am2, am3, am4, am5, am6, am7, am8, ⟨ata, atb, atc⟩⟩, ms, mt, tx⟩, rfl, ⟨ham0, ham1, ham2, ham3, ham4, ham5, ham6, ham7, ham8, ⟨hata, hatb, hatc⟩⟩⟩
  intro pvs _ hpv puvs _ hpuv pts _ hpt
  obtain ⟨pv, rfl, -⟩ : ∃ l : List (T3), pvs = slc3 l ∧ ∀ x ∈ l, True := rows_map fun r hr => by
    refine opnK_elim (T := tt) 4 36 (fun r => ∃ x : T3, r = t3 x ∧ True) r ?_ (hpv r hr)
    intro a _ b _ c _
    exact ⟨⟨a, b, c⟩, rfl, trivial⟩
  obtain ⟨puv, rfl, -⟩ : ∃ l : List (Int × Int), puvs = slc2 l ∧ ∀ x ∈ l, True := rows_map fun r hr => by
    refine opnK_elim (T := tt) 4 154 (fun r => ∃ x : Int × Int, r = p2 x ∧ True) r ?_ (hpuv r hr)
    intro a _ b _
    exact ⟨(a, b), rfl, trivial⟩
  obtain ⟨pt, rfl, -⟩ : ∃ l : List (T3), pts = slc3 l ∧ ∀ x ∈ l, True := rows_map fun r hr => by
    refine opnK_elim (T := tt) 4 75 (fun r => ∃ x : T3, r = t3 x ∧ True) r ?_ (hpt r hr)
    intro a _ b _ c _
    exact ⟨⟨a, b, c⟩, rfl, trivial⟩
  exact names41_c (R := R) n344 l hli ⟨pv, puv, pt⟩

theorem groupNames_lifted (os : Os) (started : os.Started) (H : Type) (enc : TypeId × Value → H) :
    ReturnsInHanded {} Try.checked os 7 .any (Rows.groupNamesSpec.pre6 enc Try.prog Try.f7 Rows.groupNamesRow.domain false) (Rows.groupNamesSpec.post enc Try.prog Try.f7 false true false false) :=
  lift_law (C := Try.checked) (T := tt) (n := 6) (tb := 4) hT.tt own started (by kernel_rfl) Try.func7
    (ChangeSpec.witness6 (enc := enc) (C := Try.checked) false ⟨#[], #[.slice none 0 0, .agg #[.slice none 0 0, .slice none 0 0, .slice none 0 0]], []⟩ 8 (by kernel_rfl) (by kernel_rfl) (by kernel_rfl) (by kernel_rfl))
    laid (by kernel_rfl) rfl (fun ds h => by match ds, h with | [_, _], _ => rfl) rfl Try.underlying4 groupNames_law

theorem groupNames_holds : Rows.GroupNamesSaid :=
  OpenClaim.holds_of_wide 7 Try.f7 rfl rfl rfl rfl rfl rfl rfl ⟨rfl, rfl, rfl, rfl, rfl⟩ rfl rfl rfl rfl rfl (by kernel_rfl) Try.func7 (by kernel_rfl)
    (of_decide_eq_true (by kernel_rfl)) (by unfold Func.isWrapper; first | (rw [if_pos (by decide +kernel)]; kernel_rfl) | (rw [if_neg (by decide +kernel)]; exact ⟨rfl, rfl⟩))
    (fun os started H enc _ => groupNames_lifted os started H enc)
end Go.Proofs.Ytljgnllbodbbhaa
