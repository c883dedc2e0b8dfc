/-
  No cell of these rows narrows 'for every input' (looked for: loops, veiled, ifaces, maps, wideKeys, modest, calm, conditions, laid).
  DERIVED. THE GIVEN ROWS OF THIS SEAT. 5 by the template 'for every input the law returns true; each argument reads behind the call as it read before'; 0 by the template 'total and deterministic' (their statements: YtljgnllbodbbhaaTotals.lean).
  GIVEN WITH THE SEED: the statements are not yours to turn. If you find one false, say at which input.
  Laid BY PROGRAM, IN A SANDBOX (cutbox-rows.mjs): the forced cells as the released guide's own fill.sh prints them over the translation af08fb59d50c9776… (all of the seat's roots in one cut). By AI agents, Wed Nov 11 2026. No macro, syntax, notation, axiom, sorry.
-/
import Derived.Test.YtljgnllbodbbhaaChecked
import GoSem.Claim
import GoSem.ClaimJoined
import GoSem.ClaimMapViews
import Derived.JoinedTies
import Derived.KernelRfl
namespace Go.Proofs.Ytljgnllbodbbhaa
/- THE CELL 'sum', in the pinned program and in every row, IS THE sha256 OF THE DUMP (.gsa) THAT YtljgnllbodbbhaaProg.lean LOADS. Nothing in Lean hashes anything: it is a label: what it is worth is what the hold of that sum in a sandbox is worth. -/
noncomputable def Try.pinned : Pinned := { name := "ytljgnllbodbbhaa", sum := "af08fb59d50c9776dfc5d9b83c99fb7fe4b918530b7560b9b3e8d564699d1e70", checked := Try.checked }
namespace Rows
def none {H : Type} : Left H := { results := [], args := [] }

/-- 'umbralaw41.GroupMoves': WHATEVER THE INPUT: true; the input reads as it did. -/
def groupMovesSpec : ChangeSpec := { name := "groupMoves", fn := fun _ => fun
  | [d1, d2] => { results := [.lit (.bool true)], args := [d1, d2] }
  | _ => none }
def groupMovesRow : OpenClaim := { program := "ytljgnllbodbbhaa", sum := "af08fb59d50c9776dfc5d9b83c99fb7fe4b918530b7560b9b3e8d564699d1e70", func := "umbra/umbralaw41.GroupMoves", spec := "groupMoves", inPlace := ["math/bits.Sub64"], unfollowed := true, recurses := true, plainKeys := false, apart := false }
def GroupMovesSaid : Prop := groupMovesRow.holds Try.pinned (OpenSpec.ofChange groupMovesSpec)

/-- ITS FALSE NEIGHBOUR: 'it returns false'. Refute it at one input. -/
def groupMovesWrong : ChangeSpec := { name := "groupMoves", fn := fun _ => fun
  | [d1, d2] => { results := [.lit (.bool false)], args := [d1, d2] }
  | _ => none }
def GroupMovesWrongFalsely : Prop := groupMovesRow.holds Try.pinned (OpenSpec.ofChange groupMovesWrong)

/-- 'umbralaw41.GroupChecks': WHATEVER THE INPUT: true; the input reads as it did. -/
def groupChecksSpec : ChangeSpec := { name := "groupChecks", fn := fun _ => fun
  | [d1, d2] => { results := [.lit (.bool true)], args := [d1, d2] }
  | _ => none }
def groupChecksRow : OpenClaim := { program := "ytljgnllbodbbhaa", sum := "af08fb59d50c9776dfc5d9b83c99fb7fe4b918530b7560b9b3e8d564699d1e70", func := "umbra/umbralaw41.GroupChecks", spec := "groupChecks", inPlace := ["math/bits.Sub64"], unfollowed := true, recurses := true, plainKeys := false, apart := false }
def GroupChecksSaid : Prop := groupChecksRow.holds Try.pinned (OpenSpec.ofChange groupChecksSpec)

/-- ITS FALSE NEIGHBOUR: 'it returns false'. Refute it at one input. -/
def groupChecksWrong : ChangeSpec := { name := "groupChecks", fn := fun _ => fun
  | [d1, d2] => { results := [.lit (.bool false)], args := [d1, d2] }
  | _ => none }
def GroupChecksWrongFalsely : Prop := groupChecksRow.holds Try.pinned (OpenSpec.ofChange groupChecksWrong)

/-- 'umbralaw41.GroupBelow': WHATEVER THE INPUT: true; the input reads as it did. -/
def groupBelowSpec : ChangeSpec := { name := "groupBelow", fn := fun _ => fun
  | [d1, d2] => { results := [.lit (.bool true)], args := [d1, d2] }
  | _ => none }
def groupBelowRow : OpenClaim := { program := "ytljgnllbodbbhaa", sum := "af08fb59d50c9776dfc5d9b83c99fb7fe4b918530b7560b9b3e8d564699d1e70", func := "umbra/umbralaw41.GroupBelow", spec := "groupBelow", inPlace := ["math/bits.Sub64"], unfollowed := true, recurses := true, plainKeys := false, apart := false }
def GroupBelowSaid : Prop := groupBelowRow.holds Try.pinned (OpenSpec.ofChange groupBelowSpec)

/-- ITS FALSE NEIGHBOUR: 'it returns false'. Refute it at one input. -/
def groupBelowWrong : ChangeSpec := { name := "groupBelow", fn := fun _ => fun
  | [d1, d2] => { results := [.lit (.bool false)], args := [d1, d2] }
  | _ => none }
def GroupBelowWrongFalsely : Prop := groupBelowRow.holds Try.pinned (OpenSpec.ofChange groupBelowWrong)

/-- 'umbralaw41.GroupFlattens': WHATEVER THE INPUT: true; the input reads as it did. -/
def groupFlattensSpec : ChangeSpec := { name := "groupFlattens", fn := fun _ => fun
  | [d1, d2] => { results := [.lit (.bool true)], args := [d1, d2] }
  | _ => none }
def groupFlattensRow : OpenClaim := { program := "ytljgnllbodbbhaa", sum := "af08fb59d50c9776dfc5d9b83c99fb7fe4b918530b7560b9b3e8d564699d1e70", func := "umbra/umbralaw41.GroupFlattens", spec := "groupFlattens", inPlace := ["math/bits.Sub64"], unfollowed := true, recurses := true, plainKeys := false, apart := false }
def GroupFlattensSaid : Prop := groupFlattensRow.holds Try.pinned (OpenSpec.ofChange groupFlattensSpec)

/-- ITS FALSE NEIGHBOUR: 'it returns false'. Refute it at one input. -/
def groupFlattensWrong : ChangeSpec := { name := "groupFlattens", fn := fun _ => fun
  | [d1, d2] => { results := [.lit (.bool false)], args := [d1, d2] }
  | _ => none }
def GroupFlattensWrongFalsely : Prop := groupFlattensRow.holds Try.pinned (OpenSpec.ofChange groupFlattensWrong)

/-- 'umbralaw41.GroupNames': WHATEVER THE INPUT: true; the input reads as it did. -/
def groupNamesSpec : ChangeSpec := { name := "groupNames", fn := fun _ => fun
  | [d1, d2] => { results := [.lit (.bool true)], args := [d1, d2] }
  | _ => none }
def groupNamesRow : OpenClaim := { program := "ytljgnllbodbbhaa", sum := "af08fb59d50c9776dfc5d9b83c99fb7fe4b918530b7560b9b3e8d564699d1e70", func := "umbra/umbralaw41.GroupNames", spec := "groupNames", inPlace := ["math/bits.Sub64"], unfollowed := true, recurses := true, plainKeys := false, apart := false }
def GroupNamesSaid : Prop := groupNamesRow.holds Try.pinned (OpenSpec.ofChange groupNamesSpec)

/-- ITS FALSE NEIGHBOUR: 'it returns false'. Refute it at one input. -/
def groupNamesWrong : ChangeSpec := { name := "groupNames", fn := fun _ => fun
  | [d1, d2] => { results := [.lit (.bool false)], args := [d1, d2] }
  | _ => none }
def GroupNamesWrongFalsely : Prop := groupNamesRow.holds Try.pinned (OpenSpec.ofChange groupNamesWrong)

/- THE SECOND FORM. 'bulk': how many values and letters a reading holds, each counted each time it is reached (what is shared counts as often as it is met; a slice's spare places count too). A statement '..UptoSaid' is the law's where the arguments, and the package variables that the reading takes, are together of bulk at most 1048576: NARROWER than '..Said'. Prove '..Said' where nothing that the law and all that it calls make is longer than what came in: it says more and counts as full. Else prove '..UptoSaid'. A law counts once. -/
mutual
def uptoBulk {H : Type} : DataW H → Nat
  | .lit (.string bytes) => bytes.length + 1
  | .lit _ => 1
  | .nil => 1
  | .ptr d => uptoBulk d + 1
  | .slice elems spare => uptoBulkAll elems + uptoBulkAll spare + 1
  | .agg parts => uptoBulkAll parts + 1
  | .iface _ d => uptoBulk d + 1
  | .map entries => uptoBulkEntries entries + 1
  | .held _ => 1
def uptoBulkAll {H : Type} : List (DataW H) → Nat
  | [] => 0
  | d :: r => uptoBulk d + uptoBulkAll r
def uptoBulkEntries {H : Type} : List (Lit × DataW H) → Nat
  | [] => 0
  | x :: r => uptoBulkEntry x + uptoBulkEntries r
def uptoBulkEntry {H : Type} : Lit × DataW H → Nat
  | (.string bytes, d) => bytes.length + uptoBulk d + 1
  | (_, d) => uptoBulk d + 1
 end
def uptoSmall : (H : Type) → List (DataW H) → Bool := fun _ ds => decide (uptoBulkAll ds ≤ 1048576)
def OpenSpec.upto (s : _root_.Go.ChangeSpec) : _root_.Go.OpenSpec := { _root_.Go.OpenSpec.ofChange s with cond := some uptoSmall }

/-- 'umbralaw41.GroupMoves', WHERE WHAT IT READS IS OF BULK AT MOST 1048576: true; the input reads as it did. -/
def groupMovesUptoRow : OpenClaim := { program := "ytljgnllbodbbhaa", sum := "af08fb59d50c9776dfc5d9b83c99fb7fe4b918530b7560b9b3e8d564699d1e70", func := "umbra/umbralaw41.GroupMoves", spec := "groupMoves", inPlace := ["math/bits.Sub64"], unfollowed := true, recurses := true, plainKeys := false, apart := false, narrowed := true }
def GroupMovesUptoSaid : Prop := groupMovesUptoRow.holds Try.pinned (OpenSpec.upto groupMovesSpec)

/-- 'umbralaw41.GroupChecks', WHERE WHAT IT READS IS OF BULK AT MOST 1048576: true; the input reads as it did. -/
def groupChecksUptoRow : OpenClaim := { program := "ytljgnllbodbbhaa", sum := "af08fb59d50c9776dfc5d9b83c99fb7fe4b918530b7560b9b3e8d564699d1e70", func := "umbra/umbralaw41.GroupChecks", spec := "groupChecks", inPlace := ["math/bits.Sub64"], unfollowed := true, recurses := true, plainKeys := false, apart := false, narrowed := true }
def GroupChecksUptoSaid : Prop := groupChecksUptoRow.holds Try.pinned (OpenSpec.upto groupChecksSpec)

/-- 'umbralaw41.GroupBelow', WHERE WHAT IT READS IS OF BULK AT MOST 1048576: true; the input reads as it did. -/
def groupBelowUptoRow : OpenClaim := { program := "ytljgnllbodbbhaa", sum := "af08fb59d50c9776dfc5d9b83c99fb7fe4b918530b7560b9b3e8d564699d1e70", func := "umbra/umbralaw41.GroupBelow", spec := "groupBelow", inPlace := ["math/bits.Sub64"], unfollowed := true, recurses := true, plainKeys := false, apart := false, narrowed := true }
def GroupBelowUptoSaid : Prop := groupBelowUptoRow.holds Try.pinned (OpenSpec.upto groupBelowSpec)

/-- 'umbralaw41.GroupFlattens', WHERE WHAT IT READS IS OF BULK AT MOST 1048576: true; the input reads as it did. -/
def groupFlattensUptoRow : OpenClaim := { program := "ytljgnllbodbbhaa", sum := "af08fb59d50c9776dfc5d9b83c99fb7fe4b918530b7560b9b3e8d564699d1e70", func := "umbra/umbralaw41.GroupFlattens", spec := "groupFlattens", inPlace := ["math/bits.Sub64"], unfollowed := true, recurses := true, plainKeys := false, apart := false, narrowed := true }
def GroupFlattensUptoSaid : Prop := groupFlattensUptoRow.holds Try.pinned (OpenSpec.upto groupFlattensSpec)

/-- 'umbralaw41.GroupNames', WHERE WHAT IT READS IS OF BULK AT MOST 1048576: true; the input reads as it did. -/
def groupNamesUptoRow : OpenClaim := { program := "ytljgnllbodbbhaa", sum := "af08fb59d50c9776dfc5d9b83c99fb7fe4b918530b7560b9b3e8d564699d1e70", func := "umbra/umbralaw41.GroupNames", spec := "groupNames", inPlace := ["math/bits.Sub64"], unfollowed := true, recurses := true, plainKeys := false, apart := false, narrowed := true }
def GroupNamesUptoSaid : Prop := groupNamesUptoRow.holds Try.pinned (OpenSpec.upto groupNamesSpec)

end Rows
end Go.Proofs.Ytljgnllbodbbhaa
