/- PamImages holds: for every input the law returns true and leaves what came in as it was. No condition but the tie's: package-level tables of the library start as the program's text lays them (the tied card). -/
import Derived.Test.YtniidkdlkijhiaaDoorCards
import Derived.Test.YtniidkdlkijhiaaDoorTie
import Derived.Test.YtniidkdlkijhiaaDoorEnv
import Derived.Test.YtniidkdlkijhiaaDoorU1
import Derived.Test.YtniidkdlkijhiaaDoorK3
import Derived.ProofKit
import Derived.LaidMore
import Derived.OpenShut
import Derived.Stop.Joined
namespace Go.Proofs.YtniidkdlkijhiaaDoor
open Go.AM Go.UM
set_option maxRecDepth 100000
theorem own : ownKnob Tryd.prog.godebug = none := by kernel_rfl
theorem laid : laidOutB Tryd.prog = true := by kernel_rfl
theorem door_met (os : Os) (args : Array Value) : laidMetH Tryd.prog Rows.pamImagesRow.laid ((World.doorLaid Tryd.prog 4000 os).forCall (fun _ _ => 0) ⟨#[], args, []⟩).memory :=
  laidMetH_of_parts3 (fuel := 80) (laidMet_of_run' 80 (by kernel_rfl) (by kernel_rfl)) (by kernel_rfl) (by kernel_rfl)

theorem pamImages_law (avs : List AV) (hc : ctyL tt 6 Tryd.f4.params.toList avs) : PCalls Tryd.prog 4 avs (.bool true) := by
  refine opnL_elim (T := tt) (n := 6) (ts := [39, 40]) (K := fun avs => PCalls Tryd.prog 4 avs (.bool true)) ?_ hc
  intro aw _ ah _ abe _ habe aal _ haal ade _ hade ano _ hano aas _ haas ala _ hala
  obtain ⟨abe, rfl, -⟩ : ∃ l : List T3, abe = slc3 l ∧ ∀ x ∈ l, True := rows_map fun r hr => by
    refine opnK_elim (T := tt) 4 89 (fun r => ∃ x : T3, r = t3 x ∧ True) r ?_ (habe r hr)
    intro a _ b _ c _
    exact ⟨⟨a, b, c⟩, rfl, trivial⟩
  obtain ⟨ano, rfl, -⟩ : ∃ l : List T3, ano = slc3 l ∧ ∀ x ∈ l, True := rows_map fun r hr => by
    refine opnK_elim (T := tt) 4 89 (fun r => ∃ x : T3, r = t3 x ∧ True) r ?_ (hano r hr)
    intro a _ b _ c _
    exact ⟨⟨a, b, c⟩, rfl, trivial⟩
  obtain ⟨aal, rfl, -⟩ := openK (T := tt) (n := 3) (k := .i64) (by kernel_rfl) haal
  obtain ⟨ade, rfl, -⟩ := openK (T := tt) (n := 3) (k := .i64) (by kernel_rfl) hade
  obtain ⟨aas, rfl, -⟩ := openK (T := tt) (n := 3) (k := .i64) (by kernel_rfl) haas
  obtain ⟨ala, rfl, -⟩ := openK (T := tt) (n := 3) (k := .i64) (by kernel_rfl) hala
  intro es _ he
  obtain ⟨l, rfl, -⟩ : ∃ l : List Pl, es = slP l ∧ ∀ x ∈ l, True := rows_map fun r hr => by
    refine opnK_elim (T := tt) 5 24 (fun r => ∃ x : Pl, r = x.row ∧ True) r ?_ (he r hr)
    intro w _ h _ d _ nm _ data _ hd
    obtain ⟨dl, rfl, -⟩ := openK (T := tt) (n := 2) (k := .i64) (by kernel_rfl) hd
    exact ⟨⟨w, h, d, nm, dl⟩, rfl, trivial⟩
  exact pimages_law (R := R) n368 ⟨aw, ah, abe, aal, ade, ano, aas, ala⟩ l

theorem pamImages_lifted (os : Os) (started : os.Started) (H : Type) (enc : TypeId × Value → H) :
    ReturnsInHanded {} Tryd.checked os 4 .any (fun w args => (Rows.pamImagesSpec.pre enc Tryd.prog Tryd.f4 [] false w args ∧ laidMetH Tryd.prog Rows.pamImagesRow.laid w) ∧ sizedMet enc Tryd.prog Tryd.f4 (OpenSpec.ofChange Rows.pamImagesSpec) false w args)
      (Rows.pamImagesSpec.post enc Tryd.prog Tryd.f4 false true false false) :=
  lift_laid (C := Tryd.checked) (T := tt) (n := 6) (tb := 4) (X := fun w _ => laidMetH Tryd.prog Rows.pamImagesRow.laid w) (fun _ _ _ hh h => h.of_heap hh) hT.tt own started (by kernel_rfl) Tryd.func4
    (ChangeSpec.witness_shaped (enc := enc) (C := Tryd.checked) (os := os) (X := fun w _ => laidMetH Tryd.prog Rows.pamImagesRow.laid w) false (World.doorLaid Tryd.prog 4000 os) #[.agg #[.int .i64 0, .int .i64 0, .slice none 0 0, .slice none 0 0, .slice none 0 0, .slice none 0 0, .slice none 0 0, .slice none 0 0], .slice none 0 0] 8 rfl (World.shaped_of_RefB (by kernel_rfl) (by kernel_rfl)) (by kernel_rfl) (by kernel_rfl) (by kernel_rfl) (door_met os _))
    laid (by kernel_rfl) rfl (fun ds h => by match ds, h with | [_, _], _ => rfl) rfl Tryd.underlying4 pamImages_law

theorem pamImages_said : Rows.PamImagesSaid :=
  OpenClaim.holds_of_wide 4 Tryd.f4 rfl rfl rfl rfl rfl rfl rfl ⟨rfl, rfl, rfl, rfl, rfl⟩ rfl rfl rfl rfl rfl (by kernel_rfl) Tryd.func4 (by kernel_rfl)
    (of_decide_eq_true (by kernel_rfl)) (by unfold Func.isWrapper; first | (rw [if_pos (by decide +kernel)]; kernel_rfl) | (rw [if_neg (by decide +kernel)]; exact ⟨rfl, rfl⟩))
    (fun os started H enc _ => pamImages_lifted os started H enc)

theorem pamImages_plain (f : FuncId) (fn : Func) (hf : Tryd.pinned.checked.prog.funcNamed "umbra/umbralaw30.PamImages" = some f) (hfn : Tryd.pinned.checked.prog.funcs[f]? = some fn) :
    false = Tryd.pinned.checked.prog.looks [] ∧ ∀ (j : Nat) t, fn.params[j]? = some t → Tryd.pinned.checked.prog.wantsStandIn t = false := by
  obtain rfl : f = 4 := Option.some.inj ((show Tryd.prog.funcNamed "umbra/umbralaw30.PamImages" = some 4 by kernel_rfl).symm.trans hf) |>.symm
  obtain rfl : fn = Tryd.f4 := (Option.some.inj (Tryd.func4.symm.trans hfn)).symm
  refine ⟨by kernel_rfl, fun j t ht => ?_⟩
  have hall : ∀ t ∈ Tryd.f4.params.toList, Tryd.prog.wantsStandIn t = false := by
    have h : Tryd.f4.params.toList = [39, 40] := by kernel_rfl
    rw [h]
    intro t ht
    simp only [List.mem_cons, List.not_mem_nil, or_false] at ht
    rcases ht with rfl | rfl
    all_goals exact (by kernel_rfl)
  exact hall t (by simpa using Array.mem_of_getElem? ht)

theorem pamImages_holds : Rows.PamImagesCardSaid :=
  Claim7.holds_tied_plain_at .later [] _ _ _ _ pamImages_said (fun _ h => by cases h) (by kernel_rfl) (fun _ h => by cases h) pamImages_row_tie rfl ⟨rfl, rfl⟩ (by kernel_rfl) rfl pamImages_plain (by kernel_rfl)
end Go.Proofs.YtniidkdlkijhiaaDoor
