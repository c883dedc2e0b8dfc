/- AssetEncodes holds: for every input the law returns true and leaves what came in as it was. No condition. -/
import Derived.Test.YtfcclkehihjcbaaRows
import Derived.Test.YtfcclkehihjcbaaEnv
import Derived.Test.YtfcclkehihjcbaaU2
import Derived.Test.YtfcclkehihjcbaaK2
import Derived.ProofKit
namespace Go.Proofs.Ytfcclkehihjcbaa
open Go.AM Go.UM
set_option maxRecDepth 100000
theorem own : ownKnob Try.prog.godebug = none := by kernel_rfl
theorem laid : laidOutB Try.prog = true := by kernel_rfl

theorem assetEncodes_law (avs : List AV) (hc : ctyL tt 6 Try.f5.params.toList avs) : PCalls Try.prog 5 avs (.bool true) := by
  refine opnL_elim (T := tt) (n := 6) (ts := [37]) (K := fun avs => PCalls Try.prog 5 avs (.bool true)) ?_ hc
  intro pk _ pvs _ hpv puvs _ hpuv pts _ hpt ps _ pxs _ hpx pm0 _ pm1 _ pm2 _ pm3 _ pm4 _ pl0 _ pl1 _ pl2 _ pl3 _ pl4 _ pl5 _ pl6 _ pl7 _ pl8 _ pl9 _ pl10 _ pl11 _ pl12 _
  obtain ⟨pv, rfl, -⟩ : ∃ l : List T3, pvs = slc3 l ∧ ∀ x ∈ l, True := rows_map fun r hr => by
    refine opnK_elim (T := tt) 3 33 (fun r => ∃ x : T3, r = t3 x ∧ True) r ?_ (hpv r hr)
    intro a _ b _ c _
    exact ⟨⟨a, b, c⟩, rfl, trivial⟩
  obtain ⟨puv, rfl, -⟩ : ∃ l : List (Int × Int), puvs = slc2 l ∧ ∀ x ∈ l, True := rows_map fun r hr => by
    refine opnK_elim (T := tt) 3 74 (fun r => ∃ x : Int × Int, r = p2 x ∧ True) r ?_ (hpuv r hr)
    intro a _ b _
    exact ⟨(a, b), rfl, trivial⟩
  obtain ⟨pt, rfl, -⟩ : ∃ l : List T3, pts = slc3 l ∧ ∀ x ∈ l, True := rows_map fun r hr => by
    refine opnK_elim (T := tt) 3 29 (fun r => ∃ x : T3, r = t3 x ∧ True) r ?_ (hpt r hr)
    intro a _ b _ c _
    exact ⟨⟨a, b, c⟩, rfl, trivial⟩
  obtain ⟨px, rfl, -⟩ : ∃ l : List T3, pxs = slc3 l ∧ ∀ x ∈ l, True := rows_map fun r hr => by
    refine opnK_elim (T := tt) 3 29 (fun r => ∃ x : T3, r = t3 x ∧ True) r ?_ (hpx r hr)
    intro a _ b _ c _
    exact ⟨⟨a, b, c⟩, rfl, trivial⟩
  exact encodes15_c (R := R) n300 ⟨pk, ⟨pv, puv, pt⟩, ⟨ps, px⟩, ⟨pm0, ⟨pm1, pm2, pm3⟩, pm4⟩, ⟨pl0, ⟨pl1, pl2, pl3⟩, ⟨pl4, pl5, pl6⟩, ⟨pl7, pl8, pl9⟩, ⟨pl10, pl11, pl12⟩⟩⟩

theorem assetEncodes_lifted (os : Os) (started : os.Started) (H : Type) (enc : TypeId × Value → H) :
    ReturnsInHanded {} Try.checked os 5 .any (Rows.assetEncodesSpec.pre6 enc Try.prog Try.f5 Rows.assetEncodesRow.domain false) (Rows.assetEncodesSpec.post enc Try.prog Try.f5 false true false false) :=
  lift_law (C := Try.checked) (T := tt) (n := 6) (tb := 4) hT.tt own started (by kernel_rfl) Try.func5
    (ChangeSpec.witness6 (enc := enc) (C := Try.checked) false ⟨#[], #[.agg #[.int .i64 0, .slice none 0 0, .slice none 0 0, .slice none 0 0, .int .i64 0, .slice none 0 0, .int .i64 0, .int .i64 0, .int .i64 0, .int .i64 0, .int .i64 0, .int .i64 0, .int .i64 0, .int .i64 0, .int .i64 0, .int .i64 0, .int .i64 0, .int .i64 0, .int .i64 0, .int .i64 0, .int .i64 0, .int .i64 0, .int .i64 0, .int .i64 0]], []⟩ 8 (by kernel_rfl) (by kernel_rfl) (by kernel_rfl) (by kernel_rfl))
    laid (by kernel_rfl) rfl (fun ds h => by match ds, h with | [_], _ => rfl) rfl Try.underlying4 assetEncodes_law

theorem assetEncodes_holds : Rows.AssetEncodesSaid :=
  OpenClaim.holds_of_wide 5 Try.f5 rfl rfl rfl rfl rfl rfl rfl ⟨rfl, rfl, rfl, rfl, rfl⟩ rfl rfl rfl rfl rfl (by kernel_rfl) Try.func5 (by kernel_rfl)
    (of_decide_eq_true (by kernel_rfl)) (by unfold Func.isWrapper; first | (rw [if_pos (by decide +kernel)]; kernel_rfl) | (rw [if_neg (by decide +kernel)]; exact ⟨rfl, rfl⟩))
    (fun os started H enc _ => assetEncodes_lifted os started H enc)
end Go.Proofs.Ytfcclkehihjcbaa
