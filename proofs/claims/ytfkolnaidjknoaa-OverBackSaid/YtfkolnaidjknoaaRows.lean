/-
  No cell of these rows narrows 'for every input' (looked for: loops, veiled, ifaces, maps, wideKeys, modest, calm, conditions, laid).
  DERIVED. THE GIVEN ROWS OF THIS SEAT. 7 by the template 'for every input the law returns true; each argument reads behind the call as it read before'; 0 by the template 'total and deterministic' (their statements: YtfkolnaidjknoaaTotals.lean).
  GIVEN WITH THE SEED: the statements are not yours to turn. If you find one false, say at which input.
  Laid BY PROGRAM, IN A SANDBOX (cutbox-rows.mjs): the forced cells as the released guide's own fill.sh prints them over the translation 616065e27a4d9680… (all of the seat's roots in one cut). By AI agents, Wed Nov 11 2026. No macro, syntax, notation, axiom, sorry.
-/
import Derived.Test.YtfkolnaidjknoaaChecked
import GoSem.Claim
import GoSem.ClaimJoined
import GoSem.ClaimMapViews
import Derived.JoinedTies
import Derived.KernelRfl
namespace Go.Proofs.Ytfkolnaidjknoaa
/- THE CELL 'sum', in the pinned program and in every row, IS THE sha256 OF THE DUMP (.gsa) THAT YtfkolnaidjknoaaProg.lean LOADS. Nothing in Lean hashes anything: it is a label: what it is worth is what the hold of that sum in a sandbox is worth. -/
noncomputable def Try.pinned : Pinned := { name := "ytfkolnaidjknoaa", sum := "616065e27a4d968098e1bc730ee31226251f77741c816abfcdaf5d21268104a5", checked := Try.checked }
namespace Rows
def none {H : Type} : Left H := { results := [], args := [] }

/-- 'umbralaw38.OverBetween': WHATEVER THE INPUT: true; the input reads as it did. -/
def overBetweenSpec : ChangeSpec := { name := "overBetween", fn := fun _ => fun
  | [d1, d2, d3] => { results := [.lit (.bool true)], args := [d1, d2, d3] }
  | _ => none }
def overBetweenRow : OpenClaim := { program := "ytfkolnaidjknoaa", sum := "616065e27a4d968098e1bc730ee31226251f77741c816abfcdaf5d21268104a5", func := "umbra/umbralaw38.OverBetween", spec := "overBetween", apart := false }
def OverBetweenSaid : Prop := overBetweenRow.holds Try.pinned (OpenSpec.ofChange overBetweenSpec)

/-- ITS FALSE NEIGHBOUR: 'it returns false'. Refute it at one input. -/
def overBetweenWrong : ChangeSpec := { name := "overBetween", fn := fun _ => fun
  | [d1, d2, d3] => { results := [.lit (.bool false)], args := [d1, d2, d3] }
  | _ => none }
def OverBetweenWrongFalsely : Prop := overBetweenRow.holds Try.pinned (OpenSpec.ofChange overBetweenWrong)

/-- 'umbralaw38.OverCrops': WHATEVER THE INPUT: true; the input reads as it did. -/
def overCropsSpec : ChangeSpec := { name := "overCrops", fn := fun _ => fun
  | [d1, d2, d3] => { results := [.lit (.bool true)], args := [d1, d2, d3] }
  | _ => none }
def overCropsRow : OpenClaim := { program := "ytfkolnaidjknoaa", sum := "616065e27a4d968098e1bc730ee31226251f77741c816abfcdaf5d21268104a5", func := "umbra/umbralaw38.OverCrops", spec := "overCrops", unfollowed := true, recurses := true, apart := false }
def OverCropsSaid : Prop := overCropsRow.holds Try.pinned (OpenSpec.ofChange overCropsSpec)

/-- ITS FALSE NEIGHBOUR: 'it returns false'. Refute it at one input. -/
def overCropsWrong : ChangeSpec := { name := "overCrops", fn := fun _ => fun
  | [d1, d2, d3] => { results := [.lit (.bool false)], args := [d1, d2, d3] }
  | _ => none }
def OverCropsWrongFalsely : Prop := overCropsRow.holds Try.pinned (OpenSpec.ofChange overCropsWrong)

/-- 'umbralaw38.OverHides': WHATEVER THE INPUT: true; the input reads as it did. -/
def overHidesSpec : ChangeSpec := { name := "overHides", fn := fun _ => fun
  | [d1, d2] => { results := [.lit (.bool true)], args := [d1, d2] }
  | _ => none }
def overHidesRow : OpenClaim := { program := "ytfkolnaidjknoaa", sum := "616065e27a4d968098e1bc730ee31226251f77741c816abfcdaf5d21268104a5", func := "umbra/umbralaw38.OverHides", spec := "overHides", apart := false }
def OverHidesSaid : Prop := overHidesRow.holds Try.pinned (OpenSpec.ofChange overHidesSpec)

/-- ITS FALSE NEIGHBOUR: 'it returns false'. Refute it at one input. -/
def overHidesWrong : ChangeSpec := { name := "overHides", fn := fun _ => fun
  | [d1, d2] => { results := [.lit (.bool false)], args := [d1, d2] }
  | _ => none }
def OverHidesWrongFalsely : Prop := overHidesRow.holds Try.pinned (OpenSpec.ofChange overHidesWrong)

/-- 'umbralaw38.OverMixes': WHATEVER THE INPUT: true; the input reads as it did. -/
def overMixesSpec : ChangeSpec := { name := "overMixes", fn := fun _ => fun
  | [d1, d2, d3] => { results := [.lit (.bool true)], args := [d1, d2, d3] }
  | _ => none }
def overMixesRow : OpenClaim := { program := "ytfkolnaidjknoaa", sum := "616065e27a4d968098e1bc730ee31226251f77741c816abfcdaf5d21268104a5", func := "umbra/umbralaw38.OverMixes", spec := "overMixes", unfollowed := true, recurses := true, apart := false }
def OverMixesSaid : Prop := overMixesRow.holds Try.pinned (OpenSpec.ofChange overMixesSpec)

/-- ITS FALSE NEIGHBOUR: 'it returns false'. Refute it at one input. -/
def overMixesWrong : ChangeSpec := { name := "overMixes", fn := fun _ => fun
  | [d1, d2, d3] => { results := [.lit (.bool false)], args := [d1, d2, d3] }
  | _ => none }
def OverMixesWrongFalsely : Prop := overMixesRow.holds Try.pinned (OpenSpec.ofChange overMixesWrong)

/-- 'umbralaw38.OverStacks': WHATEVER THE INPUT: true; the input reads as it did. -/
def overStacksSpec : ChangeSpec := { name := "overStacks", fn := fun _ => fun
  | [d1, d2] => { results := [.lit (.bool true)], args := [d1, d2] }
  | _ => none }
def overStacksRow : OpenClaim := { program := "ytfkolnaidjknoaa", sum := "616065e27a4d968098e1bc730ee31226251f77741c816abfcdaf5d21268104a5", func := "umbra/umbralaw38.OverStacks", spec := "overStacks", unfollowed := true, recurses := true, apart := false }
def OverStacksSaid : Prop := overStacksRow.holds Try.pinned (OpenSpec.ofChange overStacksSpec)

/-- ITS FALSE NEIGHBOUR: 'it returns false'. Refute it at one input. -/
def overStacksWrong : ChangeSpec := { name := "overStacks", fn := fun _ => fun
  | [d1, d2] => { results := [.lit (.bool false)], args := [d1, d2] }
  | _ => none }
def OverStacksWrongFalsely : Prop := overStacksRow.holds Try.pinned (OpenSpec.ofChange overStacksWrong)

/-- 'umbralaw38.OverClear': WHATEVER THE INPUT: true; the input reads as it did. -/
def overClearSpec : ChangeSpec := { name := "overClear", fn := fun _ => fun
  | [d] => { results := [.lit (.bool true)], args := [d] }
  | _ => none }
def overClearRow : OpenClaim := { program := "ytfkolnaidjknoaa", sum := "616065e27a4d968098e1bc730ee31226251f77741c816abfcdaf5d21268104a5", func := "umbra/umbralaw38.OverClear", spec := "overClear", unfollowed := true, recurses := true, apart := false }
def OverClearSaid : Prop := overClearRow.holds Try.pinned (OpenSpec.ofChange overClearSpec)

/-- ITS FALSE NEIGHBOUR: 'it returns false'. Refute it at one input. -/
def overClearWrong : ChangeSpec := { name := "overClear", fn := fun _ => fun
  | [d] => { results := [.lit (.bool false)], args := [d] }
  | _ => none }
def OverClearWrongFalsely : Prop := overClearRow.holds Try.pinned (OpenSpec.ofChange overClearWrong)

/-- 'umbralaw38.OverBack': WHATEVER THE INPUT: true; the input reads as it did. -/
def overBackSpec : ChangeSpec := { name := "overBack", fn := fun _ => fun
  | [d1, d2, d3] => { results := [.lit (.bool true)], args := [d1, d2, d3] }
  | _ => none }
def overBackRow : OpenClaim := { program := "ytfkolnaidjknoaa", sum := "616065e27a4d968098e1bc730ee31226251f77741c816abfcdaf5d21268104a5", func := "umbra/umbralaw38.OverBack", spec := "overBack", unfollowed := true, recurses := true, apart := false }
def OverBackSaid : Prop := overBackRow.holds Try.pinned (OpenSpec.ofChange overBackSpec)

/-- ITS FALSE NEIGHBOUR: 'it returns false'. Refute it at one input. -/
def overBackWrong : ChangeSpec := { name := "overBack", fn := fun _ => fun
  | [d1, d2, d3] => { results := [.lit (.bool false)], args := [d1, d2, d3] }
  | _ => none }
def OverBackWrongFalsely : Prop := overBackRow.holds Try.pinned (OpenSpec.ofChange overBackWrong)

/- THE SECOND FORM. 'bulk': how many values and letters a reading holds, each counted each time it is reached (what is shared counts as often as it is met; a slice's spare places count too). A statement '..UptoSaid' is the law's where the arguments, and the package variables that the reading takes, are together of bulk at most 1048576: NARROWER than '..Said'. Prove '..Said' where nothing that the law and all that it calls make is longer than what came in: it says more and counts as full. Else prove '..UptoSaid'. A law counts once. -/
mutual
def uptoBulk {H : Type} : DataW H → Nat
  | .lit (.string bytes) => bytes.length + 1
  | .lit _ => 1
  | .nil => 1
  | .ptr d => uptoBulk d + 1
  | .slice elems spare => uptoBulkAll elems + uptoBulkAll spare + 1
  | .agg parts => uptoBulkAll parts + 1
  | .iface _ d => uptoBulk d + 1
  | .map entries => uptoBulkEntries entries + 1
  | .held _ => 1
def uptoBulkAll {H : Type} : List (DataW H) → Nat
  | [] => 0
  | d :: r => uptoBulk d + uptoBulkAll r
def uptoBulkEntries {H : Type} : List (Lit × DataW H) → Nat
  | [] => 0
  | x :: r => uptoBulkEntry x + uptoBulkEntries r
def uptoBulkEntry {H : Type} : Lit × DataW H → Nat
  | (.string bytes, d) => bytes.length + uptoBulk d + 1
  | (_, d) => uptoBulk d + 1
 end
def uptoSmall : (H : Type) → List (DataW H) → Bool := fun _ ds => decide (uptoBulkAll ds ≤ 1048576)
def OpenSpec.upto (s : _root_.Go.ChangeSpec) : _root_.Go.OpenSpec := { _root_.Go.OpenSpec.ofChange s with cond := some uptoSmall }

/-- 'umbralaw38.OverBetween', WHERE WHAT IT READS IS OF BULK AT MOST 1048576: true; the input reads as it did. -/
def overBetweenUptoRow : OpenClaim := { program := "ytfkolnaidjknoaa", sum := "616065e27a4d968098e1bc730ee31226251f77741c816abfcdaf5d21268104a5", func := "umbra/umbralaw38.OverBetween", spec := "overBetween", apart := false, narrowed := true }
def OverBetweenUptoSaid : Prop := overBetweenUptoRow.holds Try.pinned (OpenSpec.upto overBetweenSpec)

/-- 'umbralaw38.OverCrops', WHERE WHAT IT READS IS OF BULK AT MOST 1048576: true; the input reads as it did. -/
def overCropsUptoRow : OpenClaim := { program := "ytfkolnaidjknoaa", sum := "616065e27a4d968098e1bc730ee31226251f77741c816abfcdaf5d21268104a5", func := "umbra/umbralaw38.OverCrops", spec := "overCrops", unfollowed := true, recurses := true, apart := false, narrowed := true }
def OverCropsUptoSaid : Prop := overCropsUptoRow.holds Try.pinned (OpenSpec.upto overCropsSpec)

/-- 'umbralaw38.OverHides', WHERE WHAT IT READS IS OF BULK AT MOST 1048576: true; the input reads as it did. -/
def overHidesUptoRow : OpenClaim := { program := "ytfkolnaidjknoaa", sum := "616065e27a4d968098e1bc730ee31226251f77741c816abfcdaf5d21268104a5", func := "umbra/umbralaw38.OverHides", spec := "overHides", apart := false, narrowed := true }
def OverHidesUptoSaid : Prop := overHidesUptoRow.holds Try.pinned (OpenSpec.upto overHidesSpec)

/-- 'umbralaw38.OverMixes', WHERE WHAT IT READS IS OF BULK AT MOST 1048576: true; the input reads as it did. -/
def overMixesUptoRow : OpenClaim := { program := "ytfkolnaidjknoaa", sum := "616065e27a4d968098e1bc730ee31226251f77741c816abfcdaf5d21268104a5", func := "umbra/umbralaw38.OverMixes", spec := "overMixes", unfollowed := true, recurses := true, apart := false, narrowed := true }
def OverMixesUptoSaid : Prop := overMixesUptoRow.holds Try.pinned (OpenSpec.upto overMixesSpec)

/-- 'umbralaw38.OverStacks', WHERE WHAT IT READS IS OF BULK AT MOST 1048576: true; the input reads as it did. -/
def overStacksUptoRow : OpenClaim := { program := "ytfkolnaidjknoaa", sum := "616065e27a4d968098e1bc730ee31226251f77741c816abfcdaf5d21268104a5", func := "umbra/umbralaw38.OverStacks", spec := "overStacks", unfollowed := true, recurses := true, apart := false, narrowed := true }
def OverStacksUptoSaid : Prop := overStacksUptoRow.holds Try.pinned (OpenSpec.upto overStacksSpec)

/-- 'umbralaw38.OverClear', WHERE WHAT IT READS IS OF BULK AT MOST 1048576: true; the input reads as it did. -/
def overClearUptoRow : OpenClaim := { program := "ytfkolnaidjknoaa", sum := "616065e27a4d968098e1bc730ee31226251f77741c816abfcdaf5d21268104a5", func := "umbra/umbralaw38.OverClear", spec := "overClear", unfollowed := true, recurses := true, apart := false, narrowed := true }
def OverClearUptoSaid : Prop := overClearUptoRow.holds Try.pinned (OpenSpec.upto overClearSpec)

/-- 'umbralaw38.OverBack', WHERE WHAT IT READS IS OF BULK AT MOST 1048576: true; the input reads as it did. -/
def overBackUptoRow : OpenClaim := { program := "ytfkolnaidjknoaa", sum := "616065e27a4d968098e1bc730ee31226251f77741c816abfcdaf5d21268104a5", func := "umbra/umbralaw38.OverBack", spec := "overBack", unfollowed := true, recurses := true, apart := false, narrowed := true }
def OverBackUptoSaid : Prop := overBackUptoRow.holds Try.pinned (OpenSpec.upto overBackSpec)

end Rows
end Go.Proofs.Ytfkolnaidjknoaa
