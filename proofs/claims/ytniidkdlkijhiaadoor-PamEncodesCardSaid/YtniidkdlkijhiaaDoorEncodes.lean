/- PamEncodes holds: for every input the law returns true and leaves what came in as it was. No condition but the tie's: package-level tables of the library start as the program's text lays them (the tied card). -/
import Derived.Test.YtniidkdlkijhiaaDoorCards
import Derived.Test.YtniidkdlkijhiaaDoorTie
import Derived.Test.YtniidkdlkijhiaaDoorEnv
import Derived.Test.YtniidkdlkijhiaaDoorU1
import Derived.Test.YtniidkdlkijhiaaDoorK3
import Derived.ProofKit
import Derived.LaidMore
import Derived.OpenShut
import Derived.Stop.Joined
namespace Go.Proofs.YtniidkdlkijhiaaDoor
open Go.AM Go.UM
set_option maxRecDepth 100000
theorem own : ownKnob Tryd.prog.godebug = none := by kernel_rfl
theorem laid : laidOutB Tryd.prog = true := by kernel_rfl
theorem door_met (os : Os) (args : Array Value) : laidMetH Tryd.prog Rows.pamEncodesRow.laid ((World.doorLaid Tryd.prog 4000 os).forCall (fun _ _ => 0) ⟨#[], args, []⟩).memory :=
  laidMetH_of_parts3 (fuel := 80) (laidMet_of_run' 80 (by kernel_rfl) (by kernel_rfl)) (by kernel_rfl) (by kernel_rfl)

theorem pamEncodes_law (avs : List AV) (hc : ctyL tt 6 Tryd.f3.params.toList avs) : PCalls Tryd.prog 3 avs (.bool true) := by
  refine opnL_elim (T := tt) (n := 6) (ts := [24]) (K := fun avs => PCalls Tryd.prog 3 avs (.bool true)) ?_ hc
  intro w _ h _ d _ nm _ data hdata he
  obtain ⟨l, rfl, -⟩ := openK (T := tt) (e := 3) (k := .i64) rfl he
  exact pencodes_law (R := R) n363 ⟨w, h, d, nm, l⟩

theorem pamEncodes_lifted (os : Os) (started : os.Started) (H : Type) (enc : TypeId × Value → H) :
    ReturnsInHanded {} Tryd.checked os 3 .any (fun w args => (Rows.pamEncodesSpec.pre enc Tryd.prog Tryd.f3 [] false w args ∧ laidMetH Tryd.prog Rows.pamEncodesRow.laid w) ∧ sizedMet enc Tryd.prog Tryd.f3 (OpenSpec.ofChange Rows.pamEncodesSpec) false w args)
      (Rows.pamEncodesSpec.post enc Tryd.prog Tryd.f3 false true false false) :=
  lift_laid (C := Tryd.checked) (T := tt) (n := 6) (tb := 4) (X := fun w _ => laidMetH Tryd.prog Rows.pamEncodesRow.laid w) (fun _ _ _ hh h => h.of_heap hh) hT.tt own started (by kernel_rfl) Tryd.func3
    (ChangeSpec.witness_shaped (enc := enc) (C := Tryd.checked) (os := os) (X := fun w _ => laidMetH Tryd.prog Rows.pamEncodesRow.laid w) false (World.doorLaid Tryd.prog 4000 os) #[.agg #[.int .i64 0, .int .i64 0, .int .i64 0, .string ⟨#[]⟩, .slice none 0 0]] 8 rfl (World.shaped_of_RefB (by kernel_rfl) (by kernel_rfl)) (by kernel_rfl) (by kernel_rfl) (by kernel_rfl) (door_met os _))
    laid (by kernel_rfl) rfl (fun ds h => by match ds, h with | [_], _ => rfl) rfl Tryd.underlying4 pamEncodes_law

theorem pamEncodes_said : Rows.PamEncodesSaid :=
  OpenClaim.holds_of_wide 3 Tryd.f3 rfl rfl rfl rfl rfl rfl rfl ⟨rfl, rfl, rfl, rfl, rfl⟩ rfl rfl rfl rfl rfl (by kernel_rfl) Tryd.func3 (by kernel_rfl)
    (of_decide_eq_true (by kernel_rfl)) (by unfold Func.isWrapper; first | (rw [if_pos (by decide +kernel)]; kernel_rfl) | (rw [if_neg (by decide +kernel)]; exact ⟨rfl, rfl⟩))
    (fun os started H enc _ => pamEncodes_lifted os started H enc)

theorem pamEncodes_plain (f : FuncId) (fn : Func) (hf : Tryd.pinned.checked.prog.funcNamed "umbra/umbralaw30.PamEncodes" = some f) (hfn : Tryd.pinned.checked.prog.funcs[f]? = some fn) :
    false = Tryd.pinned.checked.prog.looks [] ∧ ∀ (j : Nat) t, fn.params[j]? = some t → Tryd.pinned.checked.prog.wantsStandIn t = false := by
  obtain rfl : f = 3 := Option.some.inj ((show Tryd.prog.funcNamed "umbra/umbralaw30.PamEncodes" = some 3 by kernel_rfl).symm.trans hf) |>.symm
  obtain rfl : fn = Tryd.f3 := (Option.some.inj (Tryd.func3.symm.trans hfn)).symm
  refine ⟨by kernel_rfl, fun j t ht => ?_⟩
  have hall : ∀ t ∈ Tryd.f3.params.toList, Tryd.prog.wantsStandIn t = false := by
    have h : Tryd.f3.params.toList = [24] := by kernel_rfl
    rw [h]
    intro t ht
    simp only [List.mem_cons, List.not_mem_nil, or_false] at ht
    subst ht
    all_goals exact (by kernel_rfl)
  exact hall t (by simpa using Array.mem_of_getElem? ht)

theorem pamEncodes_holds : Rows.PamEncodesCardSaid :=
  Claim7.holds_tied_plain_at .later [] _ _ _ _ pamEncodes_said (fun _ h => by cases h) (by kernel_rfl) (fun _ h => by cases h) pamEncodes_row_tie rfl ⟨rfl, rfl⟩ (by kernel_rfl) rfl pamEncodes_plain (by kernel_rfl)
end Go.Proofs.YtniidkdlkijhiaaDoor
