/- AffineWhole holds: for every input the law returns true and leaves what came in as it was. No condition. -/
import Derived.Test.YthnphjpjgcmdbaaRows
import Derived.Test.YthnphjpjgcmdbaaEnv
import Derived.Test.YthnphjpjgcmdbaaU1
import Derived.Test.YthnphjpjgcmdbaaK2
import Derived.ProofKit
namespace Go.Proofs.Ythnphjpjgcmdbaa
open Go.AM Go.UM
set_option maxRecDepth 100000
theorem own : ownKnob Try.prog.godebug = none := by kernel_rfl
theorem laid : laidOutB Try.prog = true := by kernel_rfl

theorem affineWhole_law (avs : List AV) (hc : ctyL tt 6 Try.f8.params.toList avs) : PCalls Try.prog 8 avs (.bool true) := by
  refine opnL_elim (T := tt) (n := 6) (ts := [58,60,61]) (K := fun avs => PCalls Try.prog 8 avs (.bool true)) ?_ hc
  intro m0 h0 m1 h1 m2 h2 m3 h3 m4 h4 m5 h5 m6 h6 m7 h7 m8 h8 ta hta tb htb tc htc qa hqa qb hqb qc hqc
  exact whole_law (R := R) n247 ⟨m0, m1, m2, m3, m4, m5, m6, m7, m8⟩ ⟨ta, tb, tc⟩ ⟨qa, qb, qc⟩ ⟨h0, h1, h2, h3, h4, h5, h6, h7, h8⟩ ⟨hta, htb, htc⟩ ⟨hqa, hqb, hqc⟩

theorem affineWhole_lifted (os : Os) (started : os.Started) (H : Type) (enc : TypeId × Value → H) :
    ReturnsInHanded {} Try.checked os 8 .any (Rows.affineWholeSpec.pre6 enc Try.prog Try.f8 Rows.affineWholeRow.domain false) (Rows.affineWholeSpec.post enc Try.prog Try.f8 false true false false) :=
  lift_law (C := Try.checked) (T := tt) (n := 6) (tb := 4) hT.tt own started (by kernel_rfl) Try.func8
    (ChangeSpec.witness6 (enc := enc) (C := Try.checked) false ⟨#[], #[.agg #[.int .i8 0, .int .i8 0, .int .i8 0, .int .i8 0, .int .i8 0, .int .i8 0, .int .i8 0, .int .i8 0, .int .i8 0], .agg #[.int .i16 0, .int .i16 0, .int .i16 0], .agg #[.int .i8 0, .int .i8 0, .int .i8 0]], []⟩ 8 (by kernel_rfl) (by kernel_rfl) (by kernel_rfl) (by kernel_rfl))
    laid (by kernel_rfl) rfl (fun ds h => by match ds, h with | [_, _, _], _ => rfl) rfl Try.underlying4 affineWhole_law

theorem affineWhole_holds : Rows.AffineWholeSaid :=
  OpenClaim.holds_of_wide 8 Try.f8 rfl rfl rfl rfl rfl rfl rfl ⟨rfl, rfl, rfl, rfl, rfl⟩ rfl rfl rfl rfl rfl (by kernel_rfl) Try.func8 (by kernel_rfl)
    (of_decide_eq_true (by kernel_rfl)) (by unfold Func.isWrapper; first | (rw [if_pos (by decide +kernel)]; kernel_rfl) | (rw [if_neg (by decide +kernel)]; exact ⟨rfl, rfl⟩))
    (fun os started H enc _ => affineWhole_lifted os started H enc)
end Go.Proofs.Ythnphjpjgcmdbaa
