/- TableOrder holds: for every input the law returns true and leaves what came in as it was. No condition. -/
import Derived.Test.YtahjfplikclhlaaGreatRows
import Derived.Test.YtahjfplikclhlaaGreatEnv
import Derived.Test.YtahjfplikclhlaaGreatLib
import Derived.Test.YtahjfplikclhlaaGreatU1
import Derived.Test.YtahjfplikclhlaaGreatK3
import Derived.ProofKit
namespace Go.Proofs.YtahjfplikclhlaaGreat
open Go.AM Go.UM
set_option maxRecDepth 100000
theorem own : ownKnob Tryz.prog.godebug = none := by kernel_rfl
theorem laid : laidOutB Tryz.prog = true := by kernel_rfl

theorem tableOrder_law (avs : List AV) (hc : ctyL tt 8 Tryz.f4.params.toList avs) : PCallsZ true Tryz.prog 4 avs (.bool true) := by
  refine opnL_elim (T := tt) (n := 8) (ts := [22,61,61]) (K := fun avs => PCallsZ true Tryz.prog 4 avs (.bool true)) ?_ hc
  intro ls _ hls
  obtain ⟨l, rfl, hx⟩ : ∃ l : List Ac, ls = slAc l ∧ ∀ c ∈ l, c.i.t.I := rows_map fun r hr => by
    refine opnK_elim (T := tt) 7 61 (fun r => ∃ x : Ac, r = x.row ∧ x.i.t.I) r ?_ (hls r hr)
    intro pk _ ph _ pf0 _ pf1 _ pf2 _ pf3 _ pf4 _ pf5 _ pf6 _ pf7 _ pf8 _ pf9 _ pf10 _ pf11 _ pf12 _ pf13 _ pf14 _ pxk _ pxvs _ hpxv pxuvs _ hpxuv pxts _ hpxt pxs _ pxxs _ hpxx pxm0 _ pxm1 _ pxm2 _ pxm3 _ pxm4 _ pxl0 _ pxl1 _ pxl2 _ pxl3 _ pxl4 _ pxl5 _ pxl6 _ pxl7 _ pxl8 _ pxl9 _ pxl10 _ pxl11 _ pxl12 _ pye _ pya _ pyo _ pyn _ pym0 hpym0 pym1 hpym1 pym2 hpym2 pym3 hpym3 pym4 hpym4 pym5 hpym5 pym6 hpym6 pym7 hpym7 pym8 hpym8 pyta hpyta pytb hpytb pytc hpytc
    obtain ⟨pxv, rfl, -⟩ : ∃ l : List T3, pxvs = slc3 l ∧ ∀ x ∈ l, True := rows_map fun r hr => by
      refine opnK_elim (T := tt) 3 47 (fun r => ∃ x : T3, r = t3 x ∧ True) r ?_ (hpxv r hr)
      intro a _ b _ c _
      exact ⟨⟨a, b, c⟩, rfl, trivial⟩
    obtain ⟨pxuv, rfl, -⟩ : ∃ l : List (Int × Int), pxuvs = slc2 l ∧ ∀ x ∈ l, True := rows_map fun r hr => by
      refine opnK_elim (T := tt) 3 118 (fun r => ∃ x : Int × Int, r = p2 x ∧ True) r ?_ (hpxuv r hr)
      intro a _ b _
      exact ⟨(a, b), rfl, trivial⟩
    obtain ⟨pxt, rfl, -⟩ : ∃ l : List T3, pxts = slc3 l ∧ ∀ x ∈ l, True := rows_map fun r hr => by
      refine opnK_elim (T := tt) 3 43 (fun r => ∃ x : T3, r = t3 x ∧ True) r ?_ (hpxt r hr)
      intro a _ b _ c _
      exact ⟨⟨a, b, c⟩, rfl, trivial⟩
    obtain ⟨pxx, rfl, -⟩ : ∃ l : List T3, pxxs = slc3 l ∧ ∀ x ∈ l, True := rows_map fun r hr => by
      refine opnK_elim (T := tt) 3 43 (fun r => ∃ x : T3, r = t3 x ∧ True) r ?_ (hpxx r hr)
      intro a _ b _ c _
      exact ⟨⟨a, b, c⟩, rfl, trivial⟩
    exact ⟨⟨pk, ph, ⟨pf0, pf1, pf2, pf3, pf4, pf5, pf6, pf7, pf8, pf9, pf10, pf11, pf12, pf13, pf14⟩, ⟨pxk, ⟨pxv, pxuv, pxt⟩, ⟨pxs, pxx⟩, ⟨pxm0, ⟨pxm1, pxm2, pxm3⟩, pxm4⟩, ⟨pxl0, ⟨pxl1, pxl2, pxl3⟩, ⟨pxl4, pxl5, pxl6⟩, ⟨pxl7, pxl8, pxl9⟩, ⟨pxl10, pxl11, pxl12⟩⟩⟩, ⟨pye, pya, pyo, pyn, ⟨pym0, pym1, pym2, pym3, pym4, pym5, pym6, pym7, pym8, ⟨pyta, pytb, pytc⟩⟩⟩⟩, rfl, ⟨hpym0, hpym1, hpym2, hpym3, hpym4, hpym5, hpym6, hpym7, hpym8, ⟨hpyta, hpytb, hpytc⟩⟩⟩
  intro ak _ ah _ af0 _ af1 _ af2 _ af3 _ af4 _ af5 _ af6 _ af7 _ af8 _ af9 _ af10 _ af11 _ af12 _ af13 _ af14 _ axk _ axvs _ haxv axuvs _ haxuv axts _ haxt axs _ axxs _ haxx axm0 _ axm1 _ axm2 _ axm3 _ axm4 _ axl0 _ axl1 _ axl2 _ axl3 _ axl4 _ axl5 _ axl6 _ axl7 _ axl8 _ axl9 _ axl10 _ axl11 _ axl12 _ aye _ aya _ ayo _ ayn _ aym0 haym0 aym1 haym1 aym2 haym2 aym3 haym3 aym4 haym4 aym5 haym5 aym6 haym6 aym7 haym7 aym8 haym8 ayta hayta aytb haytb aytc haytc
  obtain ⟨axv, rfl, -⟩ : ∃ l : List T3, axvs = slc3 l ∧ ∀ x ∈ l, True := rows_map fun r hr => by
    refine opnK_elim (T := tt) 4 47 (fun r => ∃ x : T3, r = t3 x ∧ True) r ?_ (haxv r hr)
    intro a _ b _ c _
    exact ⟨⟨a, b, c⟩, rfl, trivial⟩
  obtain ⟨axuv, rfl, -⟩ : ∃ l : List (Int × Int), axuvs = slc2 l ∧ ∀ x ∈ l, True := rows_map fun r hr => by
    refine opnK_elim (T := tt) 4 118 (fun r => ∃ x : Int × Int, r = p2 x ∧ True) r ?_ (haxuv r hr)
    intro a _ b _
    exact ⟨(a, b), rfl, trivial⟩
  obtain ⟨axt, rfl, -⟩ : ∃ l : List T3, axts = slc3 l ∧ ∀ x ∈ l, True := rows_map fun r hr => by
    refine opnK_elim (T := tt) 4 43 (fun r => ∃ x : T3, r = t3 x ∧ True) r ?_ (haxt r hr)
    intro a _ b _ c _
    exact ⟨⟨a, b, c⟩, rfl, trivial⟩
  obtain ⟨axx, rfl, -⟩ : ∃ l : List T3, axxs = slc3 l ∧ ∀ x ∈ l, True := rows_map fun r hr => by
    refine opnK_elim (T := tt) 4 43 (fun r => ∃ x : T3, r = t3 x ∧ True) r ?_ (haxx r hr)
    intro a _ b _ c _
    exact ⟨⟨a, b, c⟩, rfl, trivial⟩
  have ha : (⟨ak, ah, ⟨af0, af1, af2, af3, af4, af5, af6, af7, af8, af9, af10, af11, af12, af13, af14⟩, ⟨axk, ⟨axv, axuv, axt⟩, ⟨axs, axx⟩, ⟨axm0, ⟨axm1, axm2, axm3⟩, axm4⟩, ⟨axl0, ⟨axl1, axl2, axl3⟩, ⟨axl4, axl5, axl6⟩, ⟨axl7, axl8, axl9⟩, ⟨axl10, axl11, axl12⟩⟩⟩, ⟨aye, aya, ayo, ayn, ⟨aym0, aym1, aym2, aym3, aym4, aym5, aym6, aym7, aym8, ⟨ayta, aytb, aytc⟩⟩⟩⟩ : Ac).i.t.I := ⟨haym0, haym1, haym2, haym3, haym4, haym5, haym6, haym7, haym8, ⟨hayta, haytb, haytc⟩⟩
  intro bk _ bh _ bf0 _ bf1 _ bf2 _ bf3 _ bf4 _ bf5 _ bf6 _ bf7 _ bf8 _ bf9 _ bf10 _ bf11 _ bf12 _ bf13 _ bf14 _ bxk _ bxvs _ hbxv bxuvs _ hbxuv bxts _ hbxt bxs _ bxxs _ hbxx bxm0 _ bxm1 _ bxm2 _ bxm3 _ bxm4 _ bxl0 _ bxl1 _ bxl2 _ bxl3 _ bxl4 _ bxl5 _ bxl6 _ bxl7 _ bxl8 _ bxl9 _ bxl10 _ bxl11 _ bxl12 _ bye _ bya _ byo _ byn _ bym0 hbym0 bym1 hbym1 bym2 hbym2 bym3 hbym3 bym4 hbym4 bym5 hbym5 bym6 hbym6 bym7 hbym7 bym8 hbym8 byta hbyta bytb hbytb bytc hbytc
  obtain ⟨bxv, rfl, -⟩ : ∃ l : List T3, bxvs = slc3 l ∧ ∀ x ∈ l, True := rows_map fun r hr => by
    refine opnK_elim (T := tt) 4 47 (fun r => ∃ x : T3, r = t3 x ∧ True) r ?_ (hbxv r hr)
    intro a _ b _ c _
    exact ⟨⟨a, b, c⟩, rfl, trivial⟩
  obtain ⟨bxuv, rfl, -⟩ : ∃ l : List (Int × Int), bxuvs = slc2 l ∧ ∀ x ∈ l, True := rows_map fun r hr => by
    refine opnK_elim (T := tt) 4 118 (fun r => ∃ x : Int × Int, r = p2 x ∧ True) r ?_ (hbxuv r hr)
    intro a _ b _
    exact ⟨(a, b), rfl, trivial⟩
  obtain ⟨bxt, rfl, -⟩ : ∃ l : List T3, bxts = slc3 l ∧ ∀ x ∈ l, True := rows_map fun r hr => by
    refine opnK_elim (T := tt) 4 43 (fun r => ∃ x : T3, r = t3 x ∧ True) r ?_ (hbxt r hr)
    intro a _ b _ c _
    exact ⟨⟨a, b, c⟩, rfl, trivial⟩
  obtain ⟨bxx, rfl, -⟩ : ∃ l : List T3, bxxs = slc3 l ∧ ∀ x ∈ l, True := rows_map fun r hr => by
    refine opnK_elim (T := tt) 4 43 (fun r => ∃ x : T3, r = t3 x ∧ True) r ?_ (hbxx r hr)
    intro a _ b _ c _
    exact ⟨⟨a, b, c⟩, rfl, trivial⟩
  have hb : (⟨bk, bh, ⟨bf0, bf1, bf2, bf3, bf4, bf5, bf6, bf7, bf8, bf9, bf10, bf11, bf12, bf13, bf14⟩, ⟨bxk, ⟨bxv, bxuv, bxt⟩, ⟨bxs, bxx⟩, ⟨bxm0, ⟨bxm1, bxm2, bxm3⟩, bxm4⟩, ⟨bxl0, ⟨bxl1, bxl2, bxl3⟩, ⟨bxl4, bxl5, bxl6⟩, ⟨bxl7, bxl8, bxl9⟩, ⟨bxl10, bxl11, bxl12⟩⟩⟩, ⟨bye, bya, byo, byn, ⟨bym0, bym1, bym2, bym3, bym4, bym5, bym6, bym7, bym8, ⟨byta, bytb, bytc⟩⟩⟩⟩ : Ac).i.t.I := ⟨hbym0, hbym1, hbym2, hbym3, hbym4, hbym5, hbym6, hbym7, hbym8, ⟨hbyta, hbytb, hbytc⟩⟩
  exact order18_c (R := R) n424 keysI srtI sortI srtI_ok l ⟨ak, ah, ⟨af0, af1, af2, af3, af4, af5, af6, af7, af8, af9, af10, af11, af12, af13, af14⟩, ⟨axk, ⟨axv, axuv, axt⟩, ⟨axs, axx⟩, ⟨axm0, ⟨axm1, axm2, axm3⟩, axm4⟩, ⟨axl0, ⟨axl1, axl2, axl3⟩, ⟨axl4, axl5, axl6⟩, ⟨axl7, axl8, axl9⟩, ⟨axl10, axl11, axl12⟩⟩⟩, ⟨aye, aya, ayo, ayn, ⟨aym0, aym1, aym2, aym3, aym4, aym5, aym6, aym7, aym8, ⟨ayta, aytb, aytc⟩⟩⟩⟩ ⟨bk, bh, ⟨bf0, bf1, bf2, bf3, bf4, bf5, bf6, bf7, bf8, bf9, bf10, bf11, bf12, bf13, bf14⟩, ⟨bxk, ⟨bxv, bxuv, bxt⟩, ⟨bxs, bxx⟩, ⟨bxm0, ⟨bxm1, bxm2, bxm3⟩, bxm4⟩, ⟨bxl0, ⟨bxl1, bxl2, bxl3⟩, ⟨bxl4, bxl5, bxl6⟩, ⟨bxl7, bxl8, bxl9⟩, ⟨bxl10, bxl11, bxl12⟩⟩⟩, ⟨bye, bya, byo, byn, ⟨bym0, bym1, bym2, bym3, bym4, bym5, bym6, bym7, bym8, ⟨byta, bytb, bytc⟩⟩⟩⟩ hx ha hb

theorem tableOrder_lifted (os : Os) (started : os.Started) (H : Type) (enc : TypeId × Value → H) :
    ReturnsInHanded {} Tryz.checked os 4 .any (Rows.tableOrderSpec.pre6 enc Tryz.prog Tryz.f4 Rows.tableOrderRow.domain false) (Rows.tableOrderSpec.post enc Tryz.prog Tryz.f4 false true false false) :=
  lift_law (C := Tryz.checked) (T := tt) (n := 8) (tb := 4) hT.tt own started (by kernel_rfl) Tryz.func4
    (ChangeSpec.witness6 (enc := enc) (C := Tryz.checked) false ⟨#[], #[.slice none 0 0, .agg #[.int .i64 0, .int .i64 0, .int .u64 0, .int .i64 0, .int .u32 0, .int .u8 0, .int .u8 0, .int .u8 0, .int .u8 0, .int .u8 0, .int .u8 0, .int .u8 0, .int .u8 0, .int .u32 0, .int .u32 0, .int .i64 0, .int .i64 0, .int .i64 0, .slice none 0 0, .slice none 0 0, .slice none 0 0, .int .i64 0, .slice none 0 0, .int .i64 0, .int .i64 0, .int .i64 0, .int .i64 0, .int .i64 0, .int .i64 0, .int .i64 0, .int .i64 0, .int .i64 0, .int .i64 0, .int .i64 0, .int .i64 0, .int .i64 0, .int .i64 0, .int .i64 0, .int .i64 0, .int .i64 0, .int .i64 0, .int .i64 0, .int .i64 0, .int .i64 0, .int .i64 0, .int .i64 0, .int .i64 0, .int .i64 0, .int .i64 0, .int .i64 0, .int .i64 0, .int .i64 0, .int .i64 0, .int .i64 0, .int .i64 0, .int .i64 0, .int .i64 0], .agg #[.int .i64 0, .int .i64 0, .int .u64 0, .int .i64 0, .int .u32 0, .int .u8 0, .int .u8 0, .int .u8 0, .int .u8 0, .int .u8 0, .int .u8 0, .int .u8 0, .int .u8 0, .int .u32 0, .int .u32 0, .int .i64 0, .int .i64 0, .int .i64 0, .slice none 0 0, .slice none 0 0, .slice none 0 0, .int .i64 0, .slice none 0 0, .int .i64 0, .int .i64 0, .int .i64 0, .int .i64 0, .int .i64 0, .int .i64 0, .int .i64 0, .int .i64 0, .int .i64 0, .int .i64 0, .int .i64 0, .int .i64 0, .int .i64 0, .int .i64 0, .int .i64 0, .int .i64 0, .int .i64 0, .int .i64 0, .int .i64 0, .int .i64 0, .int .i64 0, .int .i64 0, .int .i64 0, .int .i64 0, .int .i64 0, .int .i64 0, .int .i64 0, .int .i64 0, .int .i64 0, .int .i64 0, .int .i64 0, .int .i64 0, .int .i64 0, .int .i64 0]], []⟩ 8 (by kernel_rfl) (by kernel_rfl) (by kernel_rfl) (by kernel_rfl))
    laid (by kernel_rfl) rfl (fun ds h => by match ds, h with | [_, _, _], _ => rfl) rfl Tryz.underlying4 tableOrder_law

theorem tableOrder_holds : Rows.TableOrderSaid :=
  OpenClaim.holds_of_wide 4 Tryz.f4 rfl rfl rfl rfl rfl rfl rfl ⟨rfl, rfl, rfl, rfl, rfl⟩ rfl rfl rfl rfl rfl (by kernel_rfl) Tryz.func4 (by kernel_rfl)
    (of_decide_eq_true (by kernel_rfl)) (by unfold Func.isWrapper; first | (rw [if_pos (by decide +kernel)]; kernel_rfl) | (rw [if_neg (by decide +kernel)]; exact ⟨rfl, rfl⟩))
    (fun os started H enc _ => tableOrder_lifted os started H enc)
end Go.Proofs.YtahjfplikclhlaaGreat
