/- PamDecodes holds: for every input the law returns true and leaves what came in as it was. No condition but the tie's: package-level tables of the library start as the program's text lays them (the tied card). -/
import Derived.Test.YtniidkdlkijhiaaDoorCards
import Derived.Test.YtniidkdlkijhiaaDoorTie
import Derived.Test.YtniidkdlkijhiaaDoorEnv
import Derived.Test.YtniidkdlkijhiaaDoorU1
import Derived.Test.YtniidkdlkijhiaaDoorK3
import Derived.ProofKit
import Derived.LaidMore
import Derived.OpenShut
import Derived.Stop.Joined
namespace Go.Proofs.YtniidkdlkijhiaaDoor
open Go.AM Go.UM
set_option maxRecDepth 100000
theorem own : ownKnob Tryd.prog.godebug = none := by kernel_rfl
theorem laid : laidOutB Tryd.prog = true := by kernel_rfl
theorem door_met (os : Os) (args : Array Value) : laidMetH Tryd.prog Rows.pamDecodesRow.laid ((World.doorLaid Tryd.prog 4000 os).forCall (fun _ _ => 0) ⟨#[], args, []⟩).memory :=
  laidMetH_of_parts3 (fuel := 80) (laidMet_of_run' 80 (by kernel_rfl) (by kernel_rfl)) (by kernel_rfl) (by kernel_rfl)

theorem pamDecodes_law (avs : List AV) (hc : ctyL tt 6 Tryd.f5.params.toList avs) : PCalls Tryd.prog 5 avs (.bool true) := by
  refine opnL_elim (T := tt) (n := 6) (ts := [26]) (K := fun avs => PCalls Tryd.prog 5 avs (.bool true)) ?_ hc
  intro eb _ hb
  obtain ⟨b, rfl⟩ := open8 (T := tt) (n := 4) (by kernel_rfl) hb
  exact decodes_law (R := R) n371 b

theorem pamDecodes_lifted (os : Os) (started : os.Started) (H : Type) (enc : TypeId × Value → H) :
    ReturnsInHanded {} Tryd.checked os 5 .any (fun w args => (Rows.pamDecodesSpec.pre enc Tryd.prog Tryd.f5 [] false w args ∧ laidMetH Tryd.prog Rows.pamDecodesRow.laid w) ∧ sizedMet enc Tryd.prog Tryd.f5 (OpenSpec.ofChange Rows.pamDecodesSpec) false w args)
      (Rows.pamDecodesSpec.post enc Tryd.prog Tryd.f5 false true false false) :=
  lift_laid (C := Tryd.checked) (T := tt) (n := 6) (tb := 4) (X := fun w _ => laidMetH Tryd.prog Rows.pamDecodesRow.laid w) (fun _ _ _ hh h => h.of_heap hh) hT.tt own started (by kernel_rfl) Tryd.func5
    (ChangeSpec.witness_shaped (enc := enc) (C := Tryd.checked) (os := os) (X := fun w _ => laidMetH Tryd.prog Rows.pamDecodesRow.laid w) false (World.doorLaid Tryd.prog 4000 os) #[.slice none 0 0] 8 rfl (World.shaped_of_RefB (by kernel_rfl) (by kernel_rfl)) (by kernel_rfl) (by kernel_rfl) (by kernel_rfl) (door_met os _))
    laid (by kernel_rfl) rfl (fun ds h => by match ds, h with | [_], _ => rfl) rfl Tryd.underlying4 pamDecodes_law

theorem pamDecodes_said : Rows.PamDecodesSaid :=
  OpenClaim.holds_of_wide 5 Tryd.f5 rfl rfl rfl rfl rfl rfl rfl ⟨rfl, rfl, rfl, rfl, rfl⟩ rfl rfl rfl rfl rfl (by kernel_rfl) Tryd.func5 (by kernel_rfl)
    (of_decide_eq_true (by kernel_rfl)) (by unfold Func.isWrapper; first | (rw [if_pos (by decide +kernel)]; kernel_rfl) | (rw [if_neg (by decide +kernel)]; exact ⟨rfl, rfl⟩))
    (fun os started H enc _ => pamDecodes_lifted os started H enc)

theorem pamDecodes_plain (f : FuncId) (fn : Func) (hf : Tryd.pinned.checked.prog.funcNamed "umbra/umbralaw30.PamDecodes" = some f) (hfn : Tryd.pinned.checked.prog.funcs[f]? = some fn) :
    false = Tryd.pinned.checked.prog.looks [] ∧ ∀ (j : Nat) t, fn.params[j]? = some t → Tryd.pinned.checked.prog.wantsStandIn t = false := by
  obtain rfl : f = 5 := Option.some.inj ((show Tryd.prog.funcNamed "umbra/umbralaw30.PamDecodes" = some 5 by kernel_rfl).symm.trans hf) |>.symm
  obtain rfl : fn = Tryd.f5 := (Option.some.inj (Tryd.func5.symm.trans hfn)).symm
  refine ⟨by kernel_rfl, fun j t ht => ?_⟩
  have hall : ∀ t ∈ Tryd.f5.params.toList, Tryd.prog.wantsStandIn t = false := by
    have h : Tryd.f5.params.toList = [26] := by kernel_rfl
    rw [h]
    intro t ht
    simp only [List.mem_cons, List.not_mem_nil, or_false] at ht
    subst ht
    all_goals exact (by kernel_rfl)
  exact hall t (by simpa using Array.mem_of_getElem? ht)

theorem pamDecodes_holds : Rows.PamDecodesCardSaid :=
  Claim7.holds_tied_plain_at .later [] _ _ _ _ pamDecodes_said (fun _ h => by cases h) (by kernel_rfl) (fun _ h => by cases h) pamDecodes_row_tie rfl ⟨rfl, rfl⟩ (by kernel_rfl) rfl pamDecodes_plain (by kernel_rfl)
end Go.Proofs.YtniidkdlkijhiaaDoor
