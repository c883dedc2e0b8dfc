/- AssetSame holds: for every input the law returns true and leaves what came in as it was. No condition. -/
import Derived.Test.YtfcclkehihjcbaaRows
import Derived.Test.YtfcclkehihjcbaaEnv
import Derived.Test.YtfcclkehihjcbaaU2
import Derived.Test.YtfcclkehihjcbaaK2
import Derived.ProofKit
namespace Go.Proofs.Ytfcclkehihjcbaa
open Go.AM Go.UM
set_option maxRecDepth 100000
theorem own : ownKnob Try.prog.godebug = none := by kernel_rfl
theorem laid : laidOutB Try.prog = true := by kernel_rfl

theorem assetSame_law (avs : List AV) (hc : ctyL tt 6 Try.f4.params.toList avs) : PCalls Try.prog 4 avs (.bool true) := by
  refine opnL_elim (T := tt) (n := 6) (ts := [37,37]) (K := fun avs => PCalls Try.prog 4 avs (.bool true)) ?_ hc
  intro pk _ pvs _ hpv puvs _ hpuv pts _ hpt ps _ pxs _ hpx pm0 _ pm1 _ pm2 _ pm3 _ pm4 _ pl0 _ pl1 _ pl2 _ pl3 _ pl4 _ pl5 _ pl6 _ pl7 _ pl8 _ pl9 _ pl10 _ pl11 _ pl12 _
  obtain ⟨pv, rfl, -⟩ : ∃ l : List T3, pvs = slc3 l ∧ ∀ x ∈ l, True := rows_map fun r hr => by
    refine opnK_elim (T := tt) 3 33 (fun r => ∃ x : T3, r = t3 x ∧ True) r ?_ (hpv r hr)
    intro a _ b _ c _
    exact ⟨⟨a, b, c⟩, rfl, trivial⟩
  obtain ⟨puv, rfl, -⟩ : ∃ l : List (Int × Int), puvs = slc2 l ∧ ∀ x ∈ l, True := rows_map fun r hr => by
    refine opnK_elim (T := tt) 3 74 (fun r => ∃ x : Int × Int, r = p2 x ∧ True) r ?_ (hpuv r hr)
    intro a _ b _
    exact ⟨(a, b), rfl, trivial⟩
  obtain ⟨pt, rfl, -⟩ : ∃ l : List T3, pts = slc3 l ∧ ∀ x ∈ l, True := rows_map fun r hr => by
    refine opnK_elim (T := tt) 3 29 (fun r => ∃ x : T3, r = t3 x ∧ True) r ?_ (hpt r hr)
    intro a _ b _ c _
    exact ⟨⟨a, b, c⟩, rfl, trivial⟩
  obtain ⟨px, rfl, -⟩ : ∃ l : List T3, pxs = slc3 l ∧ ∀ x ∈ l, True := rows_map fun r hr => by
    refine opnK_elim (T := tt) 3 29 (fun r => ∃ x : T3, r = t3 x ∧ True) r ?_ (hpx r hr)
    intro a _ b _ c _
    exact ⟨⟨a, b, c⟩, rfl, trivial⟩
  intro qk _ qvs _ hqv quvs _ hquv qts _ hqt qs _ qxs _ hqx qm0 _ qm1 _ qm2 _ qm3 _ qm4 _ ql0 _ ql1 _ ql2 _ ql3 _ ql4 _ ql5 _ ql6 _ ql7 _ ql8 _ ql9 _ ql10 _ ql11 _ ql12 _
  obtain ⟨qv, rfl, -⟩ : ∃ l : List T3, qvs = slc3 l ∧ ∀ x ∈ l, True := rows_map fun r hr => by
    refine opnK_elim (T := tt) 3 33 (fun r => ∃ x : T3, r = t3 x ∧ True) r ?_ (hqv r hr)
    intro a _ b _ c _
    exact ⟨⟨a, b, c⟩, rfl, trivial⟩
  obtain ⟨quv, rfl, -⟩ : ∃ l : List (Int × Int), quvs = slc2 l ∧ ∀ x ∈ l, True := rows_map fun r hr => by
    refine opnK_elim (T := tt) 3 74 (fun r => ∃ x : Int × Int, r = p2 x ∧ True) r ?_ (hquv r hr)
    intro a _ b _
    exact ⟨(a, b), rfl, trivial⟩
  obtain ⟨qt, rfl, -⟩ : ∃ l : List T3, qts = slc3 l ∧ ∀ x ∈ l, True := rows_map fun r hr => by
    refine opnK_elim (T := tt) 3 29 (fun r => ∃ x : T3, r = t3 x ∧ True) r ?_ (hqt r hr)
    intro a _ b _ c _
    exact ⟨⟨a, b, c⟩, rfl, trivial⟩
  obtain ⟨qx, rfl, -⟩ : ∃ l : List T3, qxs = slc3 l ∧ ∀ x ∈ l, True := rows_map fun r hr => by
    refine opnK_elim (T := tt) 3 29 (fun r => ∃ x : T3, r = t3 x ∧ True) r ?_ (hqx r hr)
    intro a _ b _ c _
    exact ⟨⟨a, b, c⟩, rfl, trivial⟩
  exact sames15_c (R := R) n297 ⟨pk, ⟨pv, puv, pt⟩, ⟨ps, px⟩, ⟨pm0, ⟨pm1, pm2, pm3⟩, pm4⟩, ⟨pl0, ⟨pl1, pl2, pl3⟩, ⟨pl4, pl5, pl6⟩, ⟨pl7, pl8, pl9⟩, ⟨pl10, pl11, pl12⟩⟩⟩ ⟨qk, ⟨qv, quv, qt⟩, ⟨qs, qx⟩, ⟨qm0, ⟨qm1, qm2, qm3⟩, qm4⟩, ⟨ql0, ⟨ql1, ql2, ql3⟩, ⟨ql4, ql5, ql6⟩, ⟨ql7, ql8, ql9⟩, ⟨ql10, ql11, ql12⟩⟩⟩

theorem assetSame_lifted (os : Os) (started : os.Started) (H : Type) (enc : TypeId × Value → H) :
    ReturnsInHanded {} Try.checked os 4 .any (Rows.assetSameSpec.pre6 enc Try.prog Try.f4 Rows.assetSameRow.domain false) (Rows.assetSameSpec.post enc Try.prog Try.f4 false true false false) :=
  lift_law (C := Try.checked) (T := tt) (n := 6) (tb := 4) hT.tt own started (by kernel_rfl) Try.func4
    (ChangeSpec.witness6 (enc := enc) (C := Try.checked) false ⟨#[], #[.agg #[.int .i64 0, .slice none 0 0, .slice none 0 0, .slice none 0 0, .int .i64 0, .slice none 0 0, .int .i64 0, .int .i64 0, .int .i64 0, .int .i64 0, .int .i64 0, .int .i64 0, .int .i64 0, .int .i64 0, .int .i64 0, .int .i64 0, .int .i64 0, .int .i64 0, .int .i64 0, .int .i64 0, .int .i64 0, .int .i64 0, .int .i64 0, .int .i64 0], .agg #[.int .i64 0, .slice none 0 0, .slice none 0 0, .slice none 0 0, .int .i64 0, .slice none 0 0, .int .i64 0, .int .i64 0, .int .i64 0, .int .i64 0, .int .i64 0, .int .i64 0, .int .i64 0, .int .i64 0, .int .i64 0, .int .i64 0, .int .i64 0, .int .i64 0, .int .i64 0, .int .i64 0, .int .i64 0, .int .i64 0, .int .i64 0, .int .i64 0]], []⟩ 8 (by kernel_rfl) (by kernel_rfl) (by kernel_rfl) (by kernel_rfl))
    laid (by kernel_rfl) rfl (fun ds h => by match ds, h with | [_, _], _ => rfl) rfl Try.underlying4 assetSame_law

theorem assetSame_holds : Rows.AssetSameSaid :=
  OpenClaim.holds_of_wide 4 Try.f4 rfl rfl rfl rfl rfl rfl rfl ⟨rfl, rfl, rfl, rfl, rfl⟩ rfl rfl rfl rfl rfl (by kernel_rfl) Try.func4 (by kernel_rfl)
    (of_decide_eq_true (by kernel_rfl)) (by unfold Func.isWrapper; first | (rw [if_pos (by decide +kernel)]; kernel_rfl) | (rw [if_neg (by decide +kernel)]; exact ⟨rfl, rfl⟩))
    (fun os started H enc _ => assetSame_lifted os started H enc)
end Go.Proofs.Ytfcclkehihjcbaa
