/- ManifestBack holds: for every input the law returns true and leaves what came in as it was. No condition. -/
import Derived.Test.YtalgmieplcamcaaRows
import Derived.Test.YtalgmieplcamcaaEnv
import Derived.Test.YtalgmieplcamcaaU2
import Derived.Test.YtalgmieplcamcaaK2
import Derived.ProofKit
namespace Go.Proofs.Ytalgmieplcamcaa
open Go.AM Go.UM
set_option maxRecDepth 100000
theorem own : ownKnob Try.prog.godebug = none := by kernel_rfl
theorem laid : laidOutB Try.prog = true := by kernel_rfl

theorem manifestBack_law (avs : List AV) (hc : ctyL tt 6 Try.f6.params.toList avs) : PCalls Try.prog 6 avs (.bool true) := by
  refine opnL_elim (T := tt) (n := 6) (ts := [26,26]) (K := fun avs => PCalls Try.prog 6 avs (.bool true)) ?_ hc
  intro a0 h0 a1 h1 a2 h2 a3 h3 a4 h4 a5 h5 a6 h6 a7 h7 a8 h8 a9 h9 a10 h10 a11 h11 a12 h12 a13 h13 a14 h14 b0 g0 b1 g1 b2 g2 b3 g3 b4 g4 b5 g5 b6 g6 b7 g7 b8 g8 b9 g9 b10 g10 b11 g11 b12 g12 b13 g13 b14 g14
  refine mback_law (R := R) n51 ⟨a0, a1, a2, a3, a4, a5, a6, a7, a8, a9, a10, a11, a12, a13, a14⟩ ⟨b0, b1, b2, b3, b4, b5, b6, b7, b8, b9, b10, b11, b12, b13, b14⟩ ⟨h0, h1, h2, ?_, h11, h12, h13, h14⟩ ⟨g0, g1, g2, ?_, g11, g12, g13, g14⟩
  · exact Mf.mask_in h3 h4 h5 h6 h7 h8 h9 h10
  · exact Mf.mask_in g3 g4 g5 g6 g7 g8 g9 g10

theorem manifestBack_lifted (os : Os) (started : os.Started) (H : Type) (enc : TypeId × Value → H) :
    ReturnsInHanded {} Try.checked os 6 .any (Rows.manifestBackSpec.pre6 enc Try.prog Try.f6 Rows.manifestBackRow.domain false) (Rows.manifestBackSpec.post enc Try.prog Try.f6 false true false false) :=
  lift_law (C := Try.checked) (T := tt) (n := 6) (tb := 4) hT.tt own started (by kernel_rfl) Try.func6
    (ChangeSpec.witness6 (enc := enc) (C := Try.checked) false ⟨#[], #[.agg #[.int .u64 0, .int .i64 0, .int .u32 0, .int .u8 0, .int .u8 0, .int .u8 0, .int .u8 0, .int .u8 0, .int .u8 0, .int .u8 0, .int .u8 0, .int .u32 0, .int .u32 0, .int .i64 0, .int .i64 0], .agg #[.int .u64 0, .int .i64 0, .int .u32 0, .int .u8 0, .int .u8 0, .int .u8 0, .int .u8 0, .int .u8 0, .int .u8 0, .int .u8 0, .int .u8 0, .int .u32 0, .int .u32 0, .int .i64 0, .int .i64 0]], []⟩ 8 (by kernel_rfl) (by kernel_rfl) (by kernel_rfl) (by kernel_rfl))
    laid (by kernel_rfl) rfl (fun ds h => by match ds, h with | [_, _], _ => rfl) rfl Try.underlying4 manifestBack_law

theorem manifestBack_holds : Rows.ManifestBackSaid :=
  OpenClaim.holds_of_wide 6 Try.f6 rfl rfl rfl rfl rfl rfl rfl ⟨rfl, rfl, rfl, rfl, rfl⟩ rfl rfl rfl rfl rfl (by kernel_rfl) Try.func6 (by kernel_rfl)
    (of_decide_eq_true (by kernel_rfl)) (by unfold Func.isWrapper; first | (rw [if_pos (by decide +kernel)]; kernel_rfl) | (rw [if_neg (by decide +kernel)]; exact ⟨rfl, rfl⟩))
    (fun os started H enc _ => manifestBack_lifted os started H enc)
end Go.Proofs.Ytalgmieplcamcaa
