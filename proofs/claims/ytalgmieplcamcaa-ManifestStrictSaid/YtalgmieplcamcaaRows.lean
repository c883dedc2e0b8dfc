/-
  No cell of these rows narrows 'for every input' (looked for: loops, veiled, ifaces, maps, wideKeys, modest, calm, conditions, laid).
  DERIVED. THE GIVEN ROWS OF THIS SEAT. 5 by the template 'for every input the law returns true; each argument reads behind the call as it read before'; 0 by the template 'total and deterministic' (their statements: YtalgmieplcamcaaTotals.lean).
  GIVEN WITH THE SEED: the statements are not yours to turn. If you find one false, say at which input.
  Laid BY PROGRAM, IN A SANDBOX (cutbox-rows.mjs): the forced cells as the released guide's own fill.sh prints them over the translation 3f00df697e7eb420… (all of the seat's roots in one cut). By AI agents, Wed Nov 11 2026. No macro, syntax, notation, axiom, sorry.
-/
import Derived.Test.YtalgmieplcamcaaChecked
import GoSem.Claim
import GoSem.ClaimJoined
import GoSem.ClaimMapViews
import Derived.JoinedTies
import Derived.KernelRfl
namespace Go.Proofs.Ytalgmieplcamcaa
/- THE CELL 'sum', in the pinned program and in every row, IS THE sha256 OF THE DUMP (.gsa) THAT YtalgmieplcamcaaProg.lean LOADS. Nothing in Lean hashes anything: it is a label: what it is worth is what the hold of that sum in a sandbox is worth. -/
noncomputable def Try.pinned : Pinned := { name := "ytalgmieplcamcaa", sum := "3f00df697e7eb420946a33a74918db40136f74f3370caa20dac596806e4227ab", checked := Try.checked }
namespace Rows
def none {H : Type} : Left H := { results := [], args := [] }

/-- 'umbralaw12.ManifestChecks': WHATEVER THE INPUT: true; the input reads as it did. -/
def manifestChecksSpec : ChangeSpec := { name := "manifestChecks", fn := fun _ => fun
  | [d1, d2] => { results := [.lit (.bool true)], args := [d1, d2] }
  | _ => none }
def manifestChecksRow : OpenClaim := { program := "ytalgmieplcamcaa", sum := "3f00df697e7eb420946a33a74918db40136f74f3370caa20dac596806e4227ab", func := "umbra/umbralaw12.ManifestChecks", spec := "manifestChecks", apart := false }
def ManifestChecksSaid : Prop := manifestChecksRow.holds Try.pinned (OpenSpec.ofChange manifestChecksSpec)

/-- ITS FALSE NEIGHBOUR: 'it returns false'. Refute it at one input. -/
def manifestChecksWrong : ChangeSpec := { name := "manifestChecks", fn := fun _ => fun
  | [d1, d2] => { results := [.lit (.bool false)], args := [d1, d2] }
  | _ => none }
def ManifestChecksWrongFalsely : Prop := manifestChecksRow.holds Try.pinned (OpenSpec.ofChange manifestChecksWrong)

/-- 'umbralaw12.ManifestEncodes': WHATEVER THE INPUT: true; the input reads as it did. -/
def manifestEncodesSpec : ChangeSpec := { name := "manifestEncodes", fn := fun _ => fun
  | [d] => { results := [.lit (.bool true)], args := [d] }
  | _ => none }
def manifestEncodesRow : OpenClaim := { program := "ytalgmieplcamcaa", sum := "3f00df697e7eb420946a33a74918db40136f74f3370caa20dac596806e4227ab", func := "umbra/umbralaw12.ManifestEncodes", spec := "manifestEncodes", apart := false }
def ManifestEncodesSaid : Prop := manifestEncodesRow.holds Try.pinned (OpenSpec.ofChange manifestEncodesSpec)

/-- ITS FALSE NEIGHBOUR: 'it returns false'. Refute it at one input. -/
def manifestEncodesWrong : ChangeSpec := { name := "manifestEncodes", fn := fun _ => fun
  | [d] => { results := [.lit (.bool false)], args := [d] }
  | _ => none }
def ManifestEncodesWrongFalsely : Prop := manifestEncodesRow.holds Try.pinned (OpenSpec.ofChange manifestEncodesWrong)

/-- 'umbralaw12.ManifestDecodes': WHATEVER THE INPUT: true; the input reads as it did. -/
def manifestDecodesSpec : ChangeSpec := { name := "manifestDecodes", fn := fun _ => fun
  | [d] => { results := [.lit (.bool true)], args := [d] }
  | _ => none }
def manifestDecodesRow : OpenClaim := { program := "ytalgmieplcamcaa", sum := "3f00df697e7eb420946a33a74918db40136f74f3370caa20dac596806e4227ab", func := "umbra/umbralaw12.ManifestDecodes", spec := "manifestDecodes", apart := false }
def ManifestDecodesSaid : Prop := manifestDecodesRow.holds Try.pinned (OpenSpec.ofChange manifestDecodesSpec)

/-- ITS FALSE NEIGHBOUR: 'it returns false'. Refute it at one input. -/
def manifestDecodesWrong : ChangeSpec := { name := "manifestDecodes", fn := fun _ => fun
  | [d] => { results := [.lit (.bool false)], args := [d] }
  | _ => none }
def ManifestDecodesWrongFalsely : Prop := manifestDecodesRow.holds Try.pinned (OpenSpec.ofChange manifestDecodesWrong)

/-- 'umbralaw12.ManifestBack': WHATEVER THE INPUT: true; the input reads as it did. -/
def manifestBackSpec : ChangeSpec := { name := "manifestBack", fn := fun _ => fun
  | [d1, d2] => { results := [.lit (.bool true)], args := [d1, d2] }
  | _ => none }
def manifestBackRow : OpenClaim := { program := "ytalgmieplcamcaa", sum := "3f00df697e7eb420946a33a74918db40136f74f3370caa20dac596806e4227ab", func := "umbra/umbralaw12.ManifestBack", spec := "manifestBack", apart := false }
def ManifestBackSaid : Prop := manifestBackRow.holds Try.pinned (OpenSpec.ofChange manifestBackSpec)

/-- ITS FALSE NEIGHBOUR: 'it returns false'. Refute it at one input. -/
def manifestBackWrong : ChangeSpec := { name := "manifestBack", fn := fun _ => fun
  | [d1, d2] => { results := [.lit (.bool false)], args := [d1, d2] }
  | _ => none }
def ManifestBackWrongFalsely : Prop := manifestBackRow.holds Try.pinned (OpenSpec.ofChange manifestBackWrong)

/-- 'umbralaw12.ManifestStrict': WHATEVER THE INPUT: true; the input reads as it did. -/
def manifestStrictSpec : ChangeSpec := { name := "manifestStrict", fn := fun _ => fun
  | [d] => { results := [.lit (.bool true)], args := [d] }
  | _ => none }
def manifestStrictRow : OpenClaim := { program := "ytalgmieplcamcaa", sum := "3f00df697e7eb420946a33a74918db40136f74f3370caa20dac596806e4227ab", func := "umbra/umbralaw12.ManifestStrict", spec := "manifestStrict", apart := false }
def ManifestStrictSaid : Prop := manifestStrictRow.holds Try.pinned (OpenSpec.ofChange manifestStrictSpec)

/-- ITS FALSE NEIGHBOUR: 'it returns false'. Refute it at one input. -/
def manifestStrictWrong : ChangeSpec := { name := "manifestStrict", fn := fun _ => fun
  | [d] => { results := [.lit (.bool false)], args := [d] }
  | _ => none }
def ManifestStrictWrongFalsely : Prop := manifestStrictRow.holds Try.pinned (OpenSpec.ofChange manifestStrictWrong)

/- THE SECOND FORM. 'bulk': how many values and letters a reading holds, each counted each time it is reached (what is shared counts as often as it is met; a slice's spare places count too). A statement '..UptoSaid' is the law's where the arguments, and the package variables that the reading takes, are together of bulk at most 1048576: NARROWER than '..Said'. Prove '..Said' where nothing that the law and all that it calls make is longer than what came in: it says more and counts as full. Else prove '..UptoSaid'. A law counts once. -/
mutual
def uptoBulk {H : Type} : DataW H → Nat
  | .lit (.string bytes) => bytes.length + 1
  | .lit _ => 1
  | .nil => 1
  | .ptr d => uptoBulk d + 1
  | .slice elems spare => uptoBulkAll elems + uptoBulkAll spare + 1
  | .agg parts => uptoBulkAll parts + 1
  | .iface _ d => uptoBulk d + 1
  | .map entries => uptoBulkEntries entries + 1
  | .held _ => 1
def uptoBulkAll {H : Type} : List (DataW H) → Nat
  | [] => 0
  | d :: r => uptoBulk d + uptoBulkAll r
def uptoBulkEntries {H : Type} : List (Lit × DataW H) → Nat
  | [] => 0
  | x :: r => uptoBulkEntry x + uptoBulkEntries r
def uptoBulkEntry {H : Type} : Lit × DataW H → Nat
  | (.string bytes, d) => bytes.length + uptoBulk d + 1
  | (_, d) => uptoBulk d + 1
 end
def uptoSmall : (H : Type) → List (DataW H) → Bool := fun _ ds => decide (uptoBulkAll ds ≤ 1048576)
def OpenSpec.upto (s : _root_.Go.ChangeSpec) : _root_.Go.OpenSpec := { _root_.Go.OpenSpec.ofChange s with cond := some uptoSmall }

/-- 'umbralaw12.ManifestChecks', WHERE WHAT IT READS IS OF BULK AT MOST 1048576: true; the input reads as it did. -/
def manifestChecksUptoRow : OpenClaim := { program := "ytalgmieplcamcaa", sum := "3f00df697e7eb420946a33a74918db40136f74f3370caa20dac596806e4227ab", func := "umbra/umbralaw12.ManifestChecks", spec := "manifestChecks", apart := false, narrowed := true }
def ManifestChecksUptoSaid : Prop := manifestChecksUptoRow.holds Try.pinned (OpenSpec.upto manifestChecksSpec)

/-- 'umbralaw12.ManifestEncodes', WHERE WHAT IT READS IS OF BULK AT MOST 1048576: true; the input reads as it did. -/
def manifestEncodesUptoRow : OpenClaim := { program := "ytalgmieplcamcaa", sum := "3f00df697e7eb420946a33a74918db40136f74f3370caa20dac596806e4227ab", func := "umbra/umbralaw12.ManifestEncodes", spec := "manifestEncodes", apart := false, narrowed := true }
def ManifestEncodesUptoSaid : Prop := manifestEncodesUptoRow.holds Try.pinned (OpenSpec.upto manifestEncodesSpec)

/-- 'umbralaw12.ManifestDecodes', WHERE WHAT IT READS IS OF BULK AT MOST 1048576: true; the input reads as it did. -/
def manifestDecodesUptoRow : OpenClaim := { program := "ytalgmieplcamcaa", sum := "3f00df697e7eb420946a33a74918db40136f74f3370caa20dac596806e4227ab", func := "umbra/umbralaw12.ManifestDecodes", spec := "manifestDecodes", apart := false, narrowed := true }
def ManifestDecodesUptoSaid : Prop := manifestDecodesUptoRow.holds Try.pinned (OpenSpec.upto manifestDecodesSpec)

/-- 'umbralaw12.ManifestBack', WHERE WHAT IT READS IS OF BULK AT MOST 1048576: true; the input reads as it did. -/
def manifestBackUptoRow : OpenClaim := { program := "ytalgmieplcamcaa", sum := "3f00df697e7eb420946a33a74918db40136f74f3370caa20dac596806e4227ab", func := "umbra/umbralaw12.ManifestBack", spec := "manifestBack", apart := false, narrowed := true }
def ManifestBackUptoSaid : Prop := manifestBackUptoRow.holds Try.pinned (OpenSpec.upto manifestBackSpec)

/-- 'umbralaw12.ManifestStrict', WHERE WHAT IT READS IS OF BULK AT MOST 1048576: true; the input reads as it did. -/
def manifestStrictUptoRow : OpenClaim := { program := "ytalgmieplcamcaa", sum := "3f00df697e7eb420946a33a74918db40136f74f3370caa20dac596806e4227ab", func := "umbra/umbralaw12.ManifestStrict", spec := "manifestStrict", apart := false, narrowed := true }
def ManifestStrictUptoSaid : Prop := manifestStrictUptoRow.holds Try.pinned (OpenSpec.upto manifestStrictSpec)

end Rows
end Go.Proofs.Ytalgmieplcamcaa
