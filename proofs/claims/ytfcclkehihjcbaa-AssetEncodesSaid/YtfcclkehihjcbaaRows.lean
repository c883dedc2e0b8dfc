/-
  No cell of these rows narrows 'for every input' (looked for: loops, veiled, ifaces, maps, wideKeys, modest, calm, conditions, laid).
  DERIVED. THE GIVEN ROWS OF THIS SEAT. 5 by the template 'for every input the law returns true; each argument reads behind the call as it read before'; 0 by the template 'total and deterministic' (their statements: YtfcclkehihjcbaaTotals.lean).
  GIVEN WITH THE SEED: the statements are not yours to turn. If you find one false, say at which input.
  Laid BY PROGRAM, IN A SANDBOX (cutbox-rows.mjs): the forced cells as the released guide's own fill.sh prints them over the translation b0bb7362b47ccaee… (all of the seat's roots in one cut). By AI agents, Wed Nov 11 2026. No macro, syntax, notation, axiom, sorry.
-/
import Derived.Test.YtfcclkehihjcbaaChecked
import GoSem.Claim
import GoSem.ClaimJoined
import GoSem.ClaimMapViews
import Derived.JoinedTies
import Derived.KernelRfl
namespace Go.Proofs.Ytfcclkehihjcbaa
/- THE CELL 'sum', in the pinned program and in every row, IS THE sha256 OF THE DUMP (.gsa) THAT YtfcclkehihjcbaaProg.lean LOADS. Nothing in Lean hashes anything: it is a label: what it is worth is what the hold of that sum in a sandbox is worth. -/
noncomputable def Try.pinned : Pinned := { name := "ytfcclkehihjcbaa", sum := "b0bb7362b47ccaee305de3c8775938a030d1fa004974ae91a4df124b4f54979e", checked := Try.checked }
namespace Rows
def none {H : Type} : Left H := { results := [], args := [] }

/-- 'umbralaw15.AssetChecks': WHATEVER THE INPUT: true; the input reads as it did. -/
def assetChecksSpec : ChangeSpec := { name := "assetChecks", fn := fun _ => fun
  | [d] => { results := [.lit (.bool true)], args := [d] }
  | _ => none }
def assetChecksRow : OpenClaim := { program := "ytfcclkehihjcbaa", sum := "b0bb7362b47ccaee305de3c8775938a030d1fa004974ae91a4df124b4f54979e", func := "umbra/umbralaw15.AssetChecks", spec := "assetChecks", unfollowed := true, recurses := true, apart := false }
def AssetChecksSaid : Prop := assetChecksRow.holds Try.pinned (OpenSpec.ofChange assetChecksSpec)

/-- ITS FALSE NEIGHBOUR: 'it returns false'. Refute it at one input. -/
def assetChecksWrong : ChangeSpec := { name := "assetChecks", fn := fun _ => fun
  | [d] => { results := [.lit (.bool false)], args := [d] }
  | _ => none }
def AssetChecksWrongFalsely : Prop := assetChecksRow.holds Try.pinned (OpenSpec.ofChange assetChecksWrong)

/-- 'umbralaw15.AssetSame': WHATEVER THE INPUT: true; the input reads as it did. -/
def assetSameSpec : ChangeSpec := { name := "assetSame", fn := fun _ => fun
  | [d1, d2] => { results := [.lit (.bool true)], args := [d1, d2] }
  | _ => none }
def assetSameRow : OpenClaim := { program := "ytfcclkehihjcbaa", sum := "b0bb7362b47ccaee305de3c8775938a030d1fa004974ae91a4df124b4f54979e", func := "umbra/umbralaw15.AssetSame", spec := "assetSame", unfollowed := true, recurses := true, apart := false }
def AssetSameSaid : Prop := assetSameRow.holds Try.pinned (OpenSpec.ofChange assetSameSpec)

/-- ITS FALSE NEIGHBOUR: 'it returns false'. Refute it at one input. -/
def assetSameWrong : ChangeSpec := { name := "assetSame", fn := fun _ => fun
  | [d1, d2] => { results := [.lit (.bool false)], args := [d1, d2] }
  | _ => none }
def AssetSameWrongFalsely : Prop := assetSameRow.holds Try.pinned (OpenSpec.ofChange assetSameWrong)

/-- 'umbralaw15.AssetEncodes': WHATEVER THE INPUT: true; the input reads as it did. -/
def assetEncodesSpec : ChangeSpec := { name := "assetEncodes", fn := fun _ => fun
  | [d] => { results := [.lit (.bool true)], args := [d] }
  | _ => none }
def assetEncodesRow : OpenClaim := { program := "ytfcclkehihjcbaa", sum := "b0bb7362b47ccaee305de3c8775938a030d1fa004974ae91a4df124b4f54979e", func := "umbra/umbralaw15.AssetEncodes", spec := "assetEncodes", unfollowed := true, recurses := true, apart := false }
def AssetEncodesSaid : Prop := assetEncodesRow.holds Try.pinned (OpenSpec.ofChange assetEncodesSpec)

/-- ITS FALSE NEIGHBOUR: 'it returns false'. Refute it at one input. -/
def assetEncodesWrong : ChangeSpec := { name := "assetEncodes", fn := fun _ => fun
  | [d] => { results := [.lit (.bool false)], args := [d] }
  | _ => none }
def AssetEncodesWrongFalsely : Prop := assetEncodesRow.holds Try.pinned (OpenSpec.ofChange assetEncodesWrong)

/-- 'umbralaw15.AssetDecodes': WHATEVER THE INPUT: true; the input reads as it did. -/
def assetDecodesSpec : ChangeSpec := { name := "assetDecodes", fn := fun _ => fun
  | [d1, d2] => { results := [.lit (.bool true)], args := [d1, d2] }
  | _ => none }
def assetDecodesRow : OpenClaim := { program := "ytfcclkehihjcbaa", sum := "b0bb7362b47ccaee305de3c8775938a030d1fa004974ae91a4df124b4f54979e", func := "umbra/umbralaw15.AssetDecodes", spec := "assetDecodes", unfollowed := true, recurses := true, apart := false }
def AssetDecodesSaid : Prop := assetDecodesRow.holds Try.pinned (OpenSpec.ofChange assetDecodesSpec)

/-- ITS FALSE NEIGHBOUR: 'it returns false'. Refute it at one input. -/
def assetDecodesWrong : ChangeSpec := { name := "assetDecodes", fn := fun _ => fun
  | [d1, d2] => { results := [.lit (.bool false)], args := [d1, d2] }
  | _ => none }
def AssetDecodesWrongFalsely : Prop := assetDecodesRow.holds Try.pinned (OpenSpec.ofChange assetDecodesWrong)

/-- 'umbralaw15.AssetBack': WHATEVER THE INPUT: true; the input reads as it did. -/
def assetBackSpec : ChangeSpec := { name := "assetBack", fn := fun _ => fun
  | [d1, d2, d3] => { results := [.lit (.bool true)], args := [d1, d2, d3] }
  | _ => none }
def assetBackRow : OpenClaim := { program := "ytfcclkehihjcbaa", sum := "b0bb7362b47ccaee305de3c8775938a030d1fa004974ae91a4df124b4f54979e", func := "umbra/umbralaw15.AssetBack", spec := "assetBack", unfollowed := true, recurses := true, apart := false }
def AssetBackSaid : Prop := assetBackRow.holds Try.pinned (OpenSpec.ofChange assetBackSpec)

/-- ITS FALSE NEIGHBOUR: 'it returns false'. Refute it at one input. -/
def assetBackWrong : ChangeSpec := { name := "assetBack", fn := fun _ => fun
  | [d1, d2, d3] => { results := [.lit (.bool false)], args := [d1, d2, d3] }
  | _ => none }
def AssetBackWrongFalsely : Prop := assetBackRow.holds Try.pinned (OpenSpec.ofChange assetBackWrong)

/- THE SECOND FORM. 'bulk': how many values and letters a reading holds, each counted each time it is reached (what is shared counts as often as it is met; a slice's spare places count too). A statement '..UptoSaid' is the law's where the arguments, and the package variables that the reading takes, are together of bulk at most 1048576: NARROWER than '..Said'. Prove '..Said' where nothing that the law and all that it calls make is longer than what came in: it says more and counts as full. Else prove '..UptoSaid'. A law counts once. -/
mutual
def uptoBulk {H : Type} : DataW H → Nat
  | .lit (.string bytes) => bytes.length + 1
  | .lit _ => 1
  | .nil => 1
  | .ptr d => uptoBulk d + 1
  | .slice elems spare => uptoBulkAll elems + uptoBulkAll spare + 1
  | .agg parts => uptoBulkAll parts + 1
  | .iface _ d => uptoBulk d + 1
  | .map entries => uptoBulkEntries entries + 1
  | .held _ => 1
def uptoBulkAll {H : Type} : List (DataW H) → Nat
  | [] => 0
  | d :: r => uptoBulk d + uptoBulkAll r
def uptoBulkEntries {H : Type} : List (Lit × DataW H) → Nat
  | [] => 0
  | x :: r => uptoBulkEntry x + uptoBulkEntries r
def uptoBulkEntry {H : Type} : Lit × DataW H → Nat
  | (.string bytes, d) => bytes.length + uptoBulk d + 1
  | (_, d) => uptoBulk d + 1
 end
def uptoSmall : (H : Type) → List (DataW H) → Bool := fun _ ds => decide (uptoBulkAll ds ≤ 1048576)
def OpenSpec.upto (s : _root_.Go.ChangeSpec) : _root_.Go.OpenSpec := { _root_.Go.OpenSpec.ofChange s with cond := some uptoSmall }

/-- 'umbralaw15.AssetChecks', WHERE WHAT IT READS IS OF BULK AT MOST 1048576: true; the input reads as it did. -/
def assetChecksUptoRow : OpenClaim := { program := "ytfcclkehihjcbaa", sum := "b0bb7362b47ccaee305de3c8775938a030d1fa004974ae91a4df124b4f54979e", func := "umbra/umbralaw15.AssetChecks", spec := "assetChecks", unfollowed := true, recurses := true, apart := false, narrowed := true }
def AssetChecksUptoSaid : Prop := assetChecksUptoRow.holds Try.pinned (OpenSpec.upto assetChecksSpec)

/-- 'umbralaw15.AssetSame', WHERE WHAT IT READS IS OF BULK AT MOST 1048576: true; the input reads as it did. -/
def assetSameUptoRow : OpenClaim := { program := "ytfcclkehihjcbaa", sum := "b0bb7362b47ccaee305de3c8775938a030d1fa004974ae91a4df124b4f54979e", func := "umbra/umbralaw15.AssetSame", spec := "assetSame", unfollowed := true, recurses := true, apart := false, narrowed := true }
def AssetSameUptoSaid : Prop := assetSameUptoRow.holds Try.pinned (OpenSpec.upto assetSameSpec)

/-- 'umbralaw15.AssetEncodes', WHERE WHAT IT READS IS OF BULK AT MOST 1048576: true; the input reads as it did. -/
def assetEncodesUptoRow : OpenClaim := { program := "ytfcclkehihjcbaa", sum := "b0bb7362b47ccaee305de3c8775938a030d1fa004974ae91a4df124b4f54979e", func := "umbra/umbralaw15.AssetEncodes", spec := "assetEncodes", unfollowed := true, recurses := true, apart := false, narrowed := true }
def AssetEncodesUptoSaid : Prop := assetEncodesUptoRow.holds Try.pinned (OpenSpec.upto assetEncodesSpec)

/-- 'umbralaw15.AssetDecodes', WHERE WHAT IT READS IS OF BULK AT MOST 1048576: true; the input reads as it did. -/
def assetDecodesUptoRow : OpenClaim := { program := "ytfcclkehihjcbaa", sum := "b0bb7362b47ccaee305de3c8775938a030d1fa004974ae91a4df124b4f54979e", func := "umbra/umbralaw15.AssetDecodes", spec := "assetDecodes", unfollowed := true, recurses := true, apart := false, narrowed := true }
def AssetDecodesUptoSaid : Prop := assetDecodesUptoRow.holds Try.pinned (OpenSpec.upto assetDecodesSpec)

/-- 'umbralaw15.AssetBack', WHERE WHAT IT READS IS OF BULK AT MOST 1048576: true; the input reads as it did. -/
def assetBackUptoRow : OpenClaim := { program := "ytfcclkehihjcbaa", sum := "b0bb7362b47ccaee305de3c8775938a030d1fa004974ae91a4df124b4f54979e", func := "umbra/umbralaw15.AssetBack", spec := "assetBack", unfollowed := true, recurses := true, apart := false, narrowed := true }
def AssetBackUptoSaid : Prop := assetBackUptoRow.holds Try.pinned (OpenSpec.upto assetBackSpec)

end Rows
end Go.Proofs.Ytfcclkehihjcbaa
