/-
  No cell of these rows narrows 'for every input' (looked for: loops, veiled, ifaces, maps, wideKeys, modest, calm, conditions, laid).
  DERIVED. THE GIVEN ROWS OF THIS SEAT. 4 by the template 'for every input the law returns true; each argument reads behind the call as it read before'; 0 by the template 'total and deterministic' (their statements: YtcdmkciicdngdaaTotals.lean).
  GIVEN WITH THE SEED: the statements are not yours to turn. If you find one false, say at which input.
  Laid BY PROGRAM, IN A SANDBOX (cutbox-rows.mjs): the forced cells as the released guide's own fill.sh prints them over the translation 253c35e86ef54b7e… (all of the seat's roots in one cut). By AI agents, Wed Nov 11 2026. No macro, syntax, notation, axiom, sorry.
-/
import Derived.Test.YtcdmkciicdngdaaChecked
import GoSem.Claim
import GoSem.ClaimJoined
import GoSem.ClaimMapViews
import Derived.JoinedTies
import Derived.KernelRfl
namespace Go.Proofs.Ytcdmkciicdngdaa
/- THE CELL 'sum', in the pinned program and in every row, IS THE sha256 OF THE DUMP (.gsa) THAT YtcdmkciicdngdaaProg.lean LOADS. Nothing in Lean hashes anything: it is a label: what it is worth is what the hold of that sum in a sandbox is worth. -/
noncomputable def Try.pinned : Pinned := { name := "ytcdmkciicdngdaa", sum := "253c35e86ef54b7e4da82e3a753ce02343d4fce0fd0447f6fde2e7713da96089", checked := Try.checked }
namespace Rows
def none {H : Type} : Left H := { results := [], args := [] }

/-- 'umbralaw39.PackFlat': WHATEVER THE INPUT: true; the input reads as it did. -/
def packFlatSpec : ChangeSpec := { name := "packFlat", fn := fun _ => fun
  | [d1, d2, d3] => { results := [.lit (.bool true)], args := [d1, d2, d3] }
  | _ => none }
def packFlatRow : OpenClaim := { program := "ytcdmkciicdngdaa", sum := "253c35e86ef54b7e4da82e3a753ce02343d4fce0fd0447f6fde2e7713da96089", func := "umbra/umbralaw39.PackFlat", spec := "packFlat", unfollowed := true, recurses := true, apart := false }
def PackFlatSaid : Prop := packFlatRow.holds Try.pinned (OpenSpec.ofChange packFlatSpec)

/-- ITS FALSE NEIGHBOUR: 'it returns false'. Refute it at one input. -/
def packFlatWrong : ChangeSpec := { name := "packFlat", fn := fun _ => fun
  | [d1, d2, d3] => { results := [.lit (.bool false)], args := [d1, d2, d3] }
  | _ => none }
def PackFlatWrongFalsely : Prop := packFlatRow.holds Try.pinned (OpenSpec.ofChange packFlatWrong)

/-- 'umbralaw39.PackZag': WHATEVER THE INPUT: true; the input reads as it did. -/
def packZagSpec : ChangeSpec := { name := "packZag", fn := fun _ => fun
  | [d] => { results := [.lit (.bool true)], args := [d] }
  | _ => none }
def packZagRow : OpenClaim := { program := "ytcdmkciicdngdaa", sum := "253c35e86ef54b7e4da82e3a753ce02343d4fce0fd0447f6fde2e7713da96089", func := "umbra/umbralaw39.PackZag", spec := "packZag", unfollowed := true, recurses := true, apart := false }
def PackZagSaid : Prop := packZagRow.holds Try.pinned (OpenSpec.ofChange packZagSpec)

/-- ITS FALSE NEIGHBOUR: 'it returns false'. Refute it at one input. -/
def packZagWrong : ChangeSpec := { name := "packZag", fn := fun _ => fun
  | [d] => { results := [.lit (.bool false)], args := [d] }
  | _ => none }
def PackZagWrongFalsely : Prop := packZagRow.holds Try.pinned (OpenSpec.ofChange packZagWrong)

/-- 'umbralaw39.PackDeltas': WHATEVER THE INPUT: true; the input reads as it did. -/
def packDeltasSpec : ChangeSpec := { name := "packDeltas", fn := fun _ => fun
  | [d1, d2, d3] => { results := [.lit (.bool true)], args := [d1, d2, d3] }
  | _ => none }
def packDeltasRow : OpenClaim := { program := "ytcdmkciicdngdaa", sum := "253c35e86ef54b7e4da82e3a753ce02343d4fce0fd0447f6fde2e7713da96089", func := "umbra/umbralaw39.PackDeltas", spec := "packDeltas", unfollowed := true, recurses := true, apart := false }
def PackDeltasSaid : Prop := packDeltasRow.holds Try.pinned (OpenSpec.ofChange packDeltasSpec)

/-- ITS FALSE NEIGHBOUR: 'it returns false'. Refute it at one input. -/
def packDeltasWrong : ChangeSpec := { name := "packDeltas", fn := fun _ => fun
  | [d1, d2, d3] => { results := [.lit (.bool false)], args := [d1, d2, d3] }
  | _ => none }
def PackDeltasWrongFalsely : Prop := packDeltasRow.holds Try.pinned (OpenSpec.ofChange packDeltasWrong)

/-- 'umbralaw39.PackBack': WHATEVER THE INPUT: true; the input reads as it did. -/
def packBackSpec : ChangeSpec := { name := "packBack", fn := fun _ => fun
  | [d1, d2] => { results := [.lit (.bool true)], args := [d1, d2] }
  | _ => none }
def packBackRow : OpenClaim := { program := "ytcdmkciicdngdaa", sum := "253c35e86ef54b7e4da82e3a753ce02343d4fce0fd0447f6fde2e7713da96089", func := "umbra/umbralaw39.PackBack", spec := "packBack", unfollowed := true, recurses := true, apart := false }
def PackBackSaid : Prop := packBackRow.holds Try.pinned (OpenSpec.ofChange packBackSpec)

/-- ITS FALSE NEIGHBOUR: 'it returns false'. Refute it at one input. -/
def packBackWrong : ChangeSpec := { name := "packBack", fn := fun _ => fun
  | [d1, d2] => { results := [.lit (.bool false)], args := [d1, d2] }
  | _ => none }
def PackBackWrongFalsely : Prop := packBackRow.holds Try.pinned (OpenSpec.ofChange packBackWrong)

/- THE SECOND FORM. 'bulk': how many values and letters a reading holds, each counted each time it is reached (what is shared counts as often as it is met; a slice's spare places count too). A statement '..UptoSaid' is the law's where the arguments, and the package variables that the reading takes, are together of bulk at most 1048576: NARROWER than '..Said'. Prove '..Said' where nothing that the law and all that it calls make is longer than what came in: it says more and counts as full. Else prove '..UptoSaid'. A law counts once. -/
mutual
def uptoBulk {H : Type} : DataW H → Nat
  | .lit (.string bytes) => bytes.length + 1
  | .lit _ => 1
  | .nil => 1
  | .ptr d => uptoBulk d + 1
  | .slice elems spare => uptoBulkAll elems + uptoBulkAll spare + 1
  | .agg parts => uptoBulkAll parts + 1
  | .iface _ d => uptoBulk d + 1
  | .map entries => uptoBulkEntries entries + 1
  | .held _ => 1
def uptoBulkAll {H : Type} : List (DataW H) → Nat
  | [] => 0
  | d :: r => uptoBulk d + uptoBulkAll r
def uptoBulkEntries {H : Type} : List (Lit × DataW H) → Nat
  | [] => 0
  | x :: r => uptoBulkEntry x + uptoBulkEntries r
def uptoBulkEntry {H : Type} : Lit × DataW H → Nat
  | (.string bytes, d) => bytes.length + uptoBulk d + 1
  | (_, d) => uptoBulk d + 1
 end
def uptoSmall : (H : Type) → List (DataW H) → Bool := fun _ ds => decide (uptoBulkAll ds ≤ 1048576)
def OpenSpec.upto (s : _root_.Go.ChangeSpec) : _root_.Go.OpenSpec := { _root_.Go.OpenSpec.ofChange s with cond := some uptoSmall }

/-- 'umbralaw39.PackFlat', WHERE WHAT IT READS IS OF BULK AT MOST 1048576: true; the input reads as it did. -/
def packFlatUptoRow : OpenClaim := { program := "ytcdmkciicdngdaa", sum := "253c35e86ef54b7e4da82e3a753ce02343d4fce0fd0447f6fde2e7713da96089", func := "umbra/umbralaw39.PackFlat", spec := "packFlat", unfollowed := true, recurses := true, apart := false, narrowed := true }
def PackFlatUptoSaid : Prop := packFlatUptoRow.holds Try.pinned (OpenSpec.upto packFlatSpec)

/-- 'umbralaw39.PackZag', WHERE WHAT IT READS IS OF BULK AT MOST 1048576: true; the input reads as it did. -/
def packZagUptoRow : OpenClaim := { program := "ytcdmkciicdngdaa", sum := "253c35e86ef54b7e4da82e3a753ce02343d4fce0fd0447f6fde2e7713da96089", func := "umbra/umbralaw39.PackZag", spec := "packZag", unfollowed := true, recurses := true, apart := false, narrowed := true }
def PackZagUptoSaid : Prop := packZagUptoRow.holds Try.pinned (OpenSpec.upto packZagSpec)

/-- 'umbralaw39.PackDeltas', WHERE WHAT IT READS IS OF BULK AT MOST 1048576: true; the input reads as it did. -/
def packDeltasUptoRow : OpenClaim := { program := "ytcdmkciicdngdaa", sum := "253c35e86ef54b7e4da82e3a753ce02343d4fce0fd0447f6fde2e7713da96089", func := "umbra/umbralaw39.PackDeltas", spec := "packDeltas", unfollowed := true, recurses := true, apart := false, narrowed := true }
def PackDeltasUptoSaid : Prop := packDeltasUptoRow.holds Try.pinned (OpenSpec.upto packDeltasSpec)

/-- 'umbralaw39.PackBack', WHERE WHAT IT READS IS OF BULK AT MOST 1048576: true; the input reads as it did. -/
def packBackUptoRow : OpenClaim := { program := "ytcdmkciicdngdaa", sum := "253c35e86ef54b7e4da82e3a753ce02343d4fce0fd0447f6fde2e7713da96089", func := "umbra/umbralaw39.PackBack", spec := "packBack", unfollowed := true, recurses := true, apart := false, narrowed := true }
def PackBackUptoSaid : Prop := packBackUptoRow.holds Try.pinned (OpenSpec.upto packBackSpec)

end Rows
end Go.Proofs.Ytcdmkciicdngdaa
