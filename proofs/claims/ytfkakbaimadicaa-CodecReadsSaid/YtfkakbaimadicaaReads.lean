/- CodecReads holds: for every input the law returns true and leaves what came in as it was. No condition. -/
import Derived.Test.YtfkakbaimadicaaRows
import Derived.Test.YtfkakbaimadicaaEnv
import Derived.Test.YtfkakbaimadicaaU0
import Derived.Test.YtfkakbaimadicaaK2
import Derived.ProofKit
namespace Go.Proofs.Ytfkakbaimadicaa
open Go.AM Go.UM
set_option maxRecDepth 100000
theorem own : ownKnob Try.prog.godebug = none := by kernel_rfl
theorem laid : laidOutB Try.prog = true := by kernel_rfl

theorem codecReads_law (avs : List AV) (hc : ctyL tt 6 Try.f5.params.toList avs) : PCalls Try.prog 5 avs (.bool true) := by
  refine opnL_elim (T := tt) (n := 6) (ts := [22,37]) (K := fun avs => PCalls Try.prog 5 avs (.bool true)) ?_ hc
  intro es1 h1 he1 es2 h2 he2
  obtain ⟨b, rfl⟩ := open8 (by kernel_rfl) he1
  obtain ⟨asks, rfl, ha⟩ : ∃ l : List (Int × Int), es2 = slcA l ∧ ∀ a ∈ l, inI .i64 a.1 ∧ inI .i64 a.2 := rows_map fun r hr => by
    refine opnK_elim (T := tt) 5 46 (fun r => ∃ x : Int × Int, r = [.int .i64 x.1, .int .i64 x.2] ∧ inI .i64 x.1 ∧ inI .i64 x.2) r ?_ (he2 r hr)
    intro k hk n hn
    exact ⟨(k, n), rfl, hk, hn⟩
  exact reads_law (R := R) n75 b asks ha (by simpa using h2)

theorem codecReads_lifted (os : Os) (started : os.Started) (H : Type) (enc : TypeId × Value → H) :
    ReturnsInHanded {} Try.checked os 5 .any (Rows.codecReadsSpec.pre6 enc Try.prog Try.f5 Rows.codecReadsRow.domain false) (Rows.codecReadsSpec.post enc Try.prog Try.f5 false true false false) :=
  lift_law (C := Try.checked) (T := tt) (n := 6) (tb := 4) hT.tt own started (by kernel_rfl) Try.func5
    (ChangeSpec.witness6 (enc := enc) (C := Try.checked) false ⟨#[], #[.slice none 0 0, .slice none 0 0], []⟩ 8 (by kernel_rfl) (by kernel_rfl) (by kernel_rfl) (by kernel_rfl))
    laid (by kernel_rfl) rfl (fun ds h => by match ds, h with | [_, _], _ => rfl) rfl Try.underlying4 codecReads_law

theorem codecReads_holds : Rows.CodecReadsSaid :=
  OpenClaim.holds_of_wide 5 Try.f5 rfl rfl rfl rfl rfl rfl rfl ⟨rfl, rfl, rfl, rfl, rfl⟩ rfl rfl rfl rfl rfl (by kernel_rfl) Try.func5 (by kernel_rfl)
    (of_decide_eq_true (by kernel_rfl)) (by unfold Func.isWrapper; first | (rw [if_pos (by decide +kernel)]; kernel_rfl) | (rw [if_neg (by decide +kernel)]; exact ⟨rfl, rfl⟩))
    (fun os started H enc _ => codecReads_lifted os started H enc)
end Go.Proofs.Ytfkakbaimadicaa
