/-
  No cell of these rows narrows 'for every input' (looked for: loops, veiled, ifaces, maps, wideKeys, modest, calm, conditions, laid).
  DERIVED. THE GIVEN ROWS OF THIS SEAT. 5 by the template 'for every input the law returns true; each argument reads behind the call as it read before'; 0 by the template 'total and deterministic' (their statements: YtkgegkdabdmmjaaTotals.lean).
  GIVEN WITH THE SEED: the statements are not yours to turn. If you find one false, say at which input.
  Laid BY PROGRAM, IN A SANDBOX (cutbox-rows.mjs): the forced cells as the released guide's own fill.sh prints them over the translation 17bfd8eb8ceb5f75… (all of the seat's roots in one cut). By AI agents, Wed Nov 11 2026. No macro, syntax, notation, axiom, sorry.
-/
import Derived.Test.YtkgegkdabdmmjaaChecked
import GoSem.Claim
import GoSem.ClaimJoined
import GoSem.ClaimMapViews
import Derived.JoinedTies
import Derived.KernelRfl
namespace Go.Proofs.Ytkgegkdabdmmjaa
/- THE CELL 'sum', in the pinned program and in every row, IS THE sha256 OF THE DUMP (.gsa) THAT YtkgegkdabdmmjaaProg.lean LOADS. Nothing in Lean hashes anything: it is a label: what it is worth is what the hold of that sum in a sandbox is worth. -/
noncomputable def Try.pinned : Pinned := { name := "ytkgegkdabdmmjaa", sum := "17bfd8eb8ceb5f75f44e7bd7ccaac7defd432e46d3f340a0229eae8ce4990a71", checked := Try.checked }
namespace Rows
def none {H : Type} : Left H := { results := [], args := [] }

/-- 'umbralaw14.TextureEncodes': WHATEVER THE INPUT: true; the input reads as it did. -/
def textureEncodesSpec : ChangeSpec := { name := "textureEncodes", fn := fun _ => fun
  | [d] => { results := [.lit (.bool true)], args := [d] }
  | _ => none }
def textureEncodesRow : OpenClaim := { program := "ytkgegkdabdmmjaa", sum := "17bfd8eb8ceb5f75f44e7bd7ccaac7defd432e46d3f340a0229eae8ce4990a71", func := "umbra/umbralaw14.TextureEncodes", spec := "textureEncodes", apart := false }
def TextureEncodesSaid : Prop := textureEncodesRow.holds Try.pinned (OpenSpec.ofChange textureEncodesSpec)

/-- ITS FALSE NEIGHBOUR: 'it returns false'. Refute it at one input. -/
def textureEncodesWrong : ChangeSpec := { name := "textureEncodes", fn := fun _ => fun
  | [d] => { results := [.lit (.bool false)], args := [d] }
  | _ => none }
def TextureEncodesWrongFalsely : Prop := textureEncodesRow.holds Try.pinned (OpenSpec.ofChange textureEncodesWrong)

/-- 'umbralaw14.TextureBetween': WHATEVER THE INPUT: true; the input reads as it did. -/
def textureBetweenSpec : ChangeSpec := { name := "textureBetween", fn := fun _ => fun
  | [d] => { results := [.lit (.bool true)], args := [d] }
  | _ => none }
def textureBetweenRow : OpenClaim := { program := "ytkgegkdabdmmjaa", sum := "17bfd8eb8ceb5f75f44e7bd7ccaac7defd432e46d3f340a0229eae8ce4990a71", func := "umbra/umbralaw14.TextureBetween", spec := "textureBetween", unfollowed := true, recurses := true, apart := false }
def TextureBetweenSaid : Prop := textureBetweenRow.holds Try.pinned (OpenSpec.ofChange textureBetweenSpec)

/-- ITS FALSE NEIGHBOUR: 'it returns false'. Refute it at one input. -/
def textureBetweenWrong : ChangeSpec := { name := "textureBetween", fn := fun _ => fun
  | [d] => { results := [.lit (.bool false)], args := [d] }
  | _ => none }
def TextureBetweenWrongFalsely : Prop := textureBetweenRow.holds Try.pinned (OpenSpec.ofChange textureBetweenWrong)

/-- 'umbralaw14.TextureLevels': WHATEVER THE INPUT: true; the input reads as it did. -/
def textureLevelsSpec : ChangeSpec := { name := "textureLevels", fn := fun _ => fun
  | [d1, d2, d3] => { results := [.lit (.bool true)], args := [d1, d2, d3] }
  | _ => none }
def textureLevelsRow : OpenClaim := { program := "ytkgegkdabdmmjaa", sum := "17bfd8eb8ceb5f75f44e7bd7ccaac7defd432e46d3f340a0229eae8ce4990a71", func := "umbra/umbralaw14.TextureLevels", spec := "textureLevels", unfollowed := true, recurses := true, apart := false }
def TextureLevelsSaid : Prop := textureLevelsRow.holds Try.pinned (OpenSpec.ofChange textureLevelsSpec)

/-- ITS FALSE NEIGHBOUR: 'it returns false'. Refute it at one input. -/
def textureLevelsWrong : ChangeSpec := { name := "textureLevels", fn := fun _ => fun
  | [d1, d2, d3] => { results := [.lit (.bool false)], args := [d1, d2, d3] }
  | _ => none }
def TextureLevelsWrongFalsely : Prop := textureLevelsRow.holds Try.pinned (OpenSpec.ofChange textureLevelsWrong)

/-- 'umbralaw14.TextureDecodes': WHATEVER THE INPUT: true; the input reads as it did. -/
def textureDecodesSpec : ChangeSpec := { name := "textureDecodes", fn := fun _ => fun
  | [d] => { results := [.lit (.bool true)], args := [d] }
  | _ => none }
def textureDecodesRow : OpenClaim := { program := "ytkgegkdabdmmjaa", sum := "17bfd8eb8ceb5f75f44e7bd7ccaac7defd432e46d3f340a0229eae8ce4990a71", func := "umbra/umbralaw14.TextureDecodes", spec := "textureDecodes", apart := false }
def TextureDecodesSaid : Prop := textureDecodesRow.holds Try.pinned (OpenSpec.ofChange textureDecodesSpec)

/-- ITS FALSE NEIGHBOUR: 'it returns false'. Refute it at one input. -/
def textureDecodesWrong : ChangeSpec := { name := "textureDecodes", fn := fun _ => fun
  | [d] => { results := [.lit (.bool false)], args := [d] }
  | _ => none }
def TextureDecodesWrongFalsely : Prop := textureDecodesRow.holds Try.pinned (OpenSpec.ofChange textureDecodesWrong)

/-- 'umbralaw14.TextureBack': WHATEVER THE INPUT: true; the input reads as it did. -/
def textureBackSpec : ChangeSpec := { name := "textureBack", fn := fun _ => fun
  | [d1, d2] => { results := [.lit (.bool true)], args := [d1, d2] }
  | _ => none }
def textureBackRow : OpenClaim := { program := "ytkgegkdabdmmjaa", sum := "17bfd8eb8ceb5f75f44e7bd7ccaac7defd432e46d3f340a0229eae8ce4990a71", func := "umbra/umbralaw14.TextureBack", spec := "textureBack", apart := false }
def TextureBackSaid : Prop := textureBackRow.holds Try.pinned (OpenSpec.ofChange textureBackSpec)

/-- ITS FALSE NEIGHBOUR: 'it returns false'. Refute it at one input. -/
def textureBackWrong : ChangeSpec := { name := "textureBack", fn := fun _ => fun
  | [d1, d2] => { results := [.lit (.bool false)], args := [d1, d2] }
  | _ => none }
def TextureBackWrongFalsely : Prop := textureBackRow.holds Try.pinned (OpenSpec.ofChange textureBackWrong)

/- THE SECOND FORM. 'bulk': how many values and letters a reading holds, each counted each time it is reached (what is shared counts as often as it is met; a slice's spare places count too). A statement '..UptoSaid' is the law's where the arguments, and the package variables that the reading takes, are together of bulk at most 1048576: NARROWER than '..Said'. Prove '..Said' where nothing that the law and all that it calls make is longer than what came in: it says more and counts as full. Else prove '..UptoSaid'. A law counts once. -/
mutual
def uptoBulk {H : Type} : DataW H → Nat
  | .lit (.string bytes) => bytes.length + 1
  | .lit _ => 1
  | .nil => 1
  | .ptr d => uptoBulk d + 1
  | .slice elems spare => uptoBulkAll elems + uptoBulkAll spare + 1
  | .agg parts => uptoBulkAll parts + 1
  | .iface _ d => uptoBulk d + 1
  | .map entries => uptoBulkEntries entries + 1
  | .held _ => 1
def uptoBulkAll {H : Type} : List (DataW H) → Nat
  | [] => 0
  | d :: r => uptoBulk d + uptoBulkAll r
def uptoBulkEntries {H : Type} : List (Lit × DataW H) → Nat
  | [] => 0
  | x :: r => uptoBulkEntry x + uptoBulkEntries r
def uptoBulkEntry {H : Type} : Lit × DataW H → Nat
  | (.string bytes, d) => bytes.length + uptoBulk d + 1
  | (_, d) => uptoBulk d + 1
 end
def uptoSmall : (H : Type) → List (DataW H) → Bool := fun _ ds => decide (uptoBulkAll ds ≤ 1048576)
def OpenSpec.upto (s : _root_.Go.ChangeSpec) : _root_.Go.OpenSpec := { _root_.Go.OpenSpec.ofChange s with cond := some uptoSmall }

/-- 'umbralaw14.TextureEncodes', WHERE WHAT IT READS IS OF BULK AT MOST 1048576: true; the input reads as it did. -/
def textureEncodesUptoRow : OpenClaim := { program := "ytkgegkdabdmmjaa", sum := "17bfd8eb8ceb5f75f44e7bd7ccaac7defd432e46d3f340a0229eae8ce4990a71", func := "umbra/umbralaw14.TextureEncodes", spec := "textureEncodes", apart := false, narrowed := true }
def TextureEncodesUptoSaid : Prop := textureEncodesUptoRow.holds Try.pinned (OpenSpec.upto textureEncodesSpec)

/-- 'umbralaw14.TextureBetween', WHERE WHAT IT READS IS OF BULK AT MOST 1048576: true; the input reads as it did. -/
def textureBetweenUptoRow : OpenClaim := { program := "ytkgegkdabdmmjaa", sum := "17bfd8eb8ceb5f75f44e7bd7ccaac7defd432e46d3f340a0229eae8ce4990a71", func := "umbra/umbralaw14.TextureBetween", spec := "textureBetween", unfollowed := true, recurses := true, apart := false, narrowed := true }
def TextureBetweenUptoSaid : Prop := textureBetweenUptoRow.holds Try.pinned (OpenSpec.upto textureBetweenSpec)

/-- 'umbralaw14.TextureLevels', WHERE WHAT IT READS IS OF BULK AT MOST 1048576: true; the input reads as it did. -/
def textureLevelsUptoRow : OpenClaim := { program := "ytkgegkdabdmmjaa", sum := "17bfd8eb8ceb5f75f44e7bd7ccaac7defd432e46d3f340a0229eae8ce4990a71", func := "umbra/umbralaw14.TextureLevels", spec := "textureLevels", unfollowed := true, recurses := true, apart := false, narrowed := true }
def TextureLevelsUptoSaid : Prop := textureLevelsUptoRow.holds Try.pinned (OpenSpec.upto textureLevelsSpec)

/-- 'umbralaw14.TextureDecodes', WHERE WHAT IT READS IS OF BULK AT MOST 1048576: true; the input reads as it did. -/
def textureDecodesUptoRow : OpenClaim := { program := "ytkgegkdabdmmjaa", sum := "17bfd8eb8ceb5f75f44e7bd7ccaac7defd432e46d3f340a0229eae8ce4990a71", func := "umbra/umbralaw14.TextureDecodes", spec := "textureDecodes", apart := false, narrowed := true }
def TextureDecodesUptoSaid : Prop := textureDecodesUptoRow.holds Try.pinned (OpenSpec.upto textureDecodesSpec)

/-- 'umbralaw14.TextureBack', WHERE WHAT IT READS IS OF BULK AT MOST 1048576: true; the input reads as it did. -/
def textureBackUptoRow : OpenClaim := { program := "ytkgegkdabdmmjaa", sum := "17bfd8eb8ceb5f75f44e7bd7ccaac7defd432e46d3f340a0229eae8ce4990a71", func := "umbra/umbralaw14.TextureBack", spec := "textureBack", apart := false, narrowed := true }
def TextureBackUptoSaid : Prop := textureBackUptoRow.holds Try.pinned (OpenSpec.upto textureBackSpec)

end Rows
end Go.Proofs.Ytkgegkdabdmmjaa
