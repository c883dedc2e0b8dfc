/- GroupFlattens holds: for every input the law returns true and leaves what came in as it was. No condition. -/
import Derived.Test.YtljgnllbodbbhaaRows
import Derived.Test.YtljgnllbodbbhaaEnv
import Derived.Test.YtljgnllbodbbhaaU2
import Derived.Test.YtljgnllbodbbhaaK3
import Derived.ProofKit
namespace Go.Proofs.Ytljgnllbodbbhaa
open Go.AM Go.UM
set_option maxRecDepth 100000
theorem own : ownKnob Try.prog.godebug = none := by kernel_rfl
theorem laid : laidOutB Try.prog = true := by kernel_rfl

theorem groupFlattens_law (avs : List AV) (hc : ctyL tt 8 Try.f6.params.toList avs) : PCalls Try.prog 6 avs (.bool true) := by
  refine opnL_elim (T := tt) (n := 8) (ts := [22,62]) (K := fun avs => PCalls Try.prog 6 avs (.bool true)) ?_ hc
  intro ls _ hl
  obtain ⟨l, rfl, hli⟩ : ∃ l : List Gr, ls = slG l ∧ ∀ g ∈ l, g.t.I := rows_map fun r hr => by
    refine opnK_elim (T := tt) 7 41 (fun r => ∃ x : Gr, r = x.row ∧ x.t.I) r ?_ (hl r hr)
    intro p _ am0 ham0 am1 ham1 am2 ham2 am3 ham3 am4 ham4 am5 ham5 am6 ham6 am7 ham7 am8 ham8 ata hata atb hatb atc hatc ms _ mt _ tx _
    exact ⟨⟨p, ⟨am0, am1, am2, am3, am4, am5, am6, am7, am8, ⟨ata, atb, atc⟩⟩, ms, mt, tx⟩, rfl, ⟨ham0, ham1, ham2, ham3, ham4, ham5, ham6, ham7, ham8, ⟨hata, hatb, hatc⟩⟩⟩
  intro rs _ hrs
  obtain ⟨rows, rfl, -⟩ : ∃ l : List Rw, rs = slR l ∧ ∀ x ∈ l, True := rows_map fun r hr => by
    refine opnK_elim (T := tt) 7 83 (fun r => ∃ x : Rw, r = x.row ∧ True) r ?_ (hrs r hr)
    intro fh _ f0 _ f1 _ f2 _ f3 _ f4 _ f5 _ f6 _ f7 _ f8 _ f9 _ f10 _ f11 _ f12 _ f13 _ f14 _ pk _ pvs _ hpv puvs _ hpuv pts _ hpt ps _ pxs _ hpx pm0 _ pm1 _ pm2 _ pm3 _ pm4 _ pl0 _ pl1 _ pl2 _ pl3 _ pl4 _ pl5 _ pl6 _ pl7 _ pl8 _ pl9 _ pl10 _ pl11 _ pl12 _
    obtain ⟨pv, rfl, -⟩ : ∃ l : List T3, pvs = slc3 l ∧ ∀ x ∈ l, True := rows_map fun r hr => by
      refine opnK_elim (T := tt) 3 36 (fun r => ∃ x : T3, r = t3 x ∧ True) r ?_ (hpv r hr)
      intro a _ b _ c _
      exact ⟨⟨a, b, c⟩, rfl, trivial⟩
    obtain ⟨puv, rfl, -⟩ : ∃ l : List (Int × Int), puvs = slc2 l ∧ ∀ x ∈ l, True := rows_map fun r hr => by
      refine opnK_elim (T := tt) 3 154 (fun r => ∃ x : Int × Int, r = p2 x ∧ True) r ?_ (hpuv r hr)
      intro a _ b _
      exact ⟨(a, b), rfl, trivial⟩
    obtain ⟨pt, rfl, -⟩ : ∃ l : List T3, pts = slc3 l ∧ ∀ x ∈ l, True := rows_map fun r hr => by
      refine opnK_elim (T := tt) 3 75 (fun r => ∃ x : T3, r = t3 x ∧ True) r ?_ (hpt r hr)
      intro a _ b _ c _
      exact ⟨⟨a, b, c⟩, rfl, trivial⟩
    obtain ⟨px, rfl, -⟩ : ∃ l : List T3, pxs = slc3 l ∧ ∀ x ∈ l, True := rows_map fun r hr => by
      refine opnK_elim (T := tt) 3 75 (fun r => ∃ x : T3, r = t3 x ∧ True) r ?_ (hpx r hr)
      intro a _ b _ c _
      exact ⟨⟨a, b, c⟩, rfl, trivial⟩
    exact ⟨⟨fh, ⟨f0, f1, f2, f3, f4, f5, f6, f7, f8, f9, f10, f11, f12, f13, f14⟩, ⟨pk, ⟨pv, puv, pt⟩, ⟨ps, px⟩, ⟨pm0, ⟨pm1, pm2, pm3⟩, pm4⟩, ⟨pl0, ⟨pl1, pl2, pl3⟩, ⟨pl4, pl5, pl6⟩, ⟨pl7, pl8, pl9⟩, ⟨pl10, pl11, pl12⟩⟩⟩⟩, rfl, trivial⟩
  exact flattens41_c (R := R) n339 l hli rows

theorem groupFlattens_lifted (os : Os) (started : os.Started) (H : Type) (enc : TypeId × Value → H) :
    ReturnsInHanded {} Try.checked os 6 .any (Rows.groupFlattensSpec.pre6 enc Try.prog Try.f6 Rows.groupFlattensRow.domain false) (Rows.groupFlattensSpec.post enc Try.prog Try.f6 false true false false) :=
  lift_law (C := Try.checked) (T := tt) (n := 8) (tb := 4) hT.tt own started (by kernel_rfl) Try.func6
    (ChangeSpec.witness6 (enc := enc) (C := Try.checked) false ⟨#[], #[.slice none 0 0, .slice none 0 0], []⟩ 8 (by kernel_rfl) (by kernel_rfl) (by kernel_rfl) (by kernel_rfl))
    laid (by kernel_rfl) rfl (fun ds h => by match ds, h with | [_, _], _ => rfl) rfl Try.underlying4 groupFlattens_law

theorem groupFlattens_holds : Rows.GroupFlattensSaid :=
  OpenClaim.holds_of_wide 6 Try.f6 rfl rfl rfl rfl rfl rfl rfl ⟨rfl, rfl, rfl, rfl, rfl⟩ rfl rfl rfl rfl rfl (by kernel_rfl) Try.func6 (by kernel_rfl)
    (of_decide_eq_true (by kernel_rfl)) (by unfold Func.isWrapper; first | (rw [if_pos (by decide +kernel)]; kernel_rfl) | (rw [if_neg (by decide +kernel)]; exact ⟨rfl, rfl⟩))
    (fun os started H enc _ => groupFlattens_lifted os started H enc)
end Go.Proofs.Ytljgnllbodbbhaa
