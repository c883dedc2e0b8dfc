/- TableBack holds: for every input the law returns true and leaves what came in as it was. No condition. -/
import Derived.Test.YtahjfplikclhlaaGreatRows
import Derived.Test.YtahjfplikclhlaaGreatEnv
import Derived.Test.YtahjfplikclhlaaGreatLib
import Derived.Test.YtahjfplikclhlaaGreatU2
import Derived.Test.YtahjfplikclhlaaGreatK3
import Derived.ProofKit
namespace Go.Proofs.YtahjfplikclhlaaGreat
open Go.AM Go.UM
set_option maxRecDepth 100000
theorem own : ownKnob Tryz.prog.godebug = none := by kernel_rfl
theorem laid : laidOutB Tryz.prog = true := by kernel_rfl

theorem tableBack_law (avs : List AV) (hc : ctyL tt 8 Tryz.f6.params.toList avs) : PCallsZ true Tryz.prog 6 avs (.bool true) := by
  refine opnL_elim (T := tt) (n := 8) (ts := [22,59,3]) (K := fun avs => PCallsZ true Tryz.prog 6 avs (.bool true)) ?_ hc
  intro ls _ hls
  obtain ⟨l, rfl, hx⟩ : ∃ l : List Ac, ls = slAc l /\ ∀ c ∈ l, c.i.t.I := rows_map fun r hr => by
    refine opnK_elim (T := tt) 7 61 (fun r => ∃ x : Ac, r = x.row /\ x.i.t.I) r ?_ (hls r hr)
    intro pk _ ph _ pf0 _ pf1 _ pf2 _ pf3 _ pf4 _ pf5 _ pf6 _ pf7 _ pf8 _ pf9 _ pf10 _ pf11 _ pf12 _ pf13 _ pf14 _ pxk _ pxvs _ hpxv pxuvs _ hpxuv pxts _ hpxt pxs _ pxxs _ hpxx pxm0 _ pxm1 _ pxm2 _ pxm3 _ pxm4 _ pxl0 _ pxl1 _ pxl2 _ pxl3 _ pxl4 _ pxl5 _ pxl6 _ pxl7 _ pxl8 _ pxl9 _ pxl10 _ pxl11 _ pxl12 _ pye _ pya _ pyo _ pyn _ pym0 hpym0 pym1 hpym1 pym2 hpym2 pym3 hpym3 pym4 hpym4 pym5 hpym5 pym6 hpym6 pym7 hpym7 pym8 hpym8 pyta hpyta pytb hpytb pytc hpytc
    obtain ⟨pxv, rfl, -⟩ : ∃ l : List T3, pxvs = slc3 l /\ ∀ x ∈ l, True := rows_map fun r hr => by
      refine opnK_elim (T := tt) 3 47 (fun r => ∃ x : T3, r = t3 x /\ True) r ?_ (hpxv r hr)
      intro a _ b _ c _
      exact ⟨⟨a, b, c⟩, rfl, trivial⟩
    obtain ⟨pxuv, rfl, -⟩ : ∃ l : List (Int × Int), pxuvs = slc2 l /\ ∀ x ∈ l, True := rows_map fun r hr => by
      refine opnK_elim (T := tt) 3 118 (fun r => ∃ x : Int × Int, r = p2 x /\ True) r ?_ (hpxuv r hr)
      intro a _ b _
      exact ⟨(a, b), rfl, trivial⟩
    obtain ⟨pxt, rfl, -⟩ : ∃ l : List T3, pxts = slc3 l /\ ∀ x ∈ l, True := rows_map fun r hr => by
      refine opnK_elim (T := tt) 3 43 (fun r => ∃ x : T3, r = t3 x /\ True) r ?_ (hpxt r hr)
      intro a _ b _ c _
      exact ⟨⟨a, b, c⟩, rfl, trivial⟩
    obtain ⟨pxx, rfl, -⟩ : ∃ l : List T3, pxxs = slc3 l /\ ∀ x ∈ l, True := rows_map fun r hr => by
      refine opnK_elim (T := tt) 3 43 (fun r => ∃ x : T3, r = t3 x /\ True) r ?_ (hpxx r hr)
      intro a _ b _ c _
      exact ⟨⟨a, b, c⟩, rfl, trivial⟩
    exact ⟨⟨pk, ph, ⟨pf0, pf1, pf2, pf3, pf4, pf5, pf6, pf7, pf8, pf9, pf10, pf11, pf12, pf13, pf14⟩, ⟨pxk, ⟨pxv, pxuv, pxt⟩, ⟨pxs, pxx⟩, ⟨pxm0, ⟨pxm1, pxm2, pxm3⟩, pxm4⟩, ⟨pxl0, ⟨pxl1, pxl2, pxl3⟩, ⟨pxl4, pxl5, pxl6⟩, ⟨pxl7, pxl8, pxl9⟩, ⟨pxl10, pxl11, pxl12⟩⟩⟩, ⟨pye, pya, pyo, pyn, ⟨pym0, pym1, pym2, pym3, pym4, pym5, pym6, pym7, pym8, ⟨pyta, pytb, pytc⟩⟩⟩⟩, rfl, ⟨hpym0, hpym1, hpym2, hpym3, hpym4, hpym5, hpym6, hpym7, hpym8, ⟨hpyta, hpytb, hpytc⟩⟩⟩
  intro ye _ ya _ yo _ yn _ ym0 hym0 ym1 hym1 ym2 hym2 ym3 hym3 ym4 hym4 ym5 hym5 ym6 hym6 ym7 hym7 ym8 hym8 yta hyta ytb hytb ytc hytc
  intro hd _
  exact back18_c (R := R) n426 keysI srtI sortI srtI_ok l ⟨ye, ya, yo, yn, ⟨ym0, ym1, ym2, ym3, ym4, ym5, ym6, ym7, ym8, ⟨yta, ytb, ytc⟩⟩⟩ hd hx ⟨hym0, hym1, hym2, hym3, hym4, hym5, hym6, hym7, hym8, ⟨hyta, hytb, hytc⟩⟩

theorem tableBack_lifted (os : Os) (started : os.Started) (H : Type) (enc : TypeId × Value -> H) :
    ReturnsInHanded {} Tryz.checked os 6 .any (Rows.tableBackSpec.pre6 enc Tryz.prog Tryz.f6 Rows.tableBackRow.domain false) (Rows.tableBackSpec.post enc Tryz.prog Tryz.f6 false true false false) :=
  lift_law (C := Tryz.checked) (T := tt) (n := 8) (tb := 4) hT.tt own started (by kernel_rfl) Tryz.func6
    (ChangeSpec.witness6 (enc := enc) (C := Tryz.checked) false ⟨#[], #[.slice none 0 0, .agg #[.int .i64 0, .int .i64 0, .int .i64 0, .int .i64 0, .int .i64 0, .int .i64 0, .int .i64 0, .int .i64 0, .int .i64 0, .int .i64 0, .int .i64 0, .int .i64 0, .int .i64 0, .int .i64 0, .int .i64 0, .int .i64 0], .int .i64 0], []⟩ 8 (by kernel_rfl) (by kernel_rfl) (by kernel_rfl) (by kernel_rfl))
    laid (by kernel_rfl) rfl (fun ds h => by match ds, h with | [_, _, _], _ => rfl) rfl Tryz.underlying4 tableBack_law

theorem tableBack_holds : Rows.TableBackSaid :=
  OpenClaim.holds_of_wide 6 Tryz.f6 rfl rfl rfl rfl rfl rfl rfl ⟨rfl, rfl, rfl, rfl, rfl⟩ rfl rfl rfl rfl rfl (by kernel_rfl) Tryz.func6 (by kernel_rfl)
    (of_decide_eq_true (by kernel_rfl)) (by unfold Func.isWrapper; first | (rw [if_pos (by decide +kernel)]; kernel_rfl) | (rw [if_neg (by decide +kernel)]; exact ⟨rfl, rfl⟩))
    (fun os started H enc _ => tableBack_lifted os started H enc)
end Go.Proofs.YtahjfplikclhlaaGreat
