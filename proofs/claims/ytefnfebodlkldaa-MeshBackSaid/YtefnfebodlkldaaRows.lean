/-
  No cell of these rows narrows 'for every input' (looked for: loops, veiled, ifaces, maps, wideKeys, modest, calm, conditions, laid).
  DERIVED. THE GIVEN ROWS OF THIS SEAT. 5 by the template 'for every input the law returns true; each argument reads behind the call as it read before'; 0 by the template 'total and deterministic' (their statements: YtefnfebodlkldaaTotals.lean).
  GIVEN WITH THE SEED: the statements are not yours to turn. If you find one false, say at which input.
  Laid BY PROGRAM, IN A SANDBOX (cutbox-rows.mjs): the forced cells as the released guide's own fill.sh prints them over the translation faa0553c09a12e20… (all of the seat's roots in one cut). By AI agents, Wed Nov 11 2026. No macro, syntax, notation, axiom, sorry.
-/
import Derived.Test.YtefnfebodlkldaaChecked
import GoSem.Claim
import GoSem.ClaimJoined
import GoSem.ClaimMapViews
import Derived.JoinedTies
import Derived.KernelRfl
namespace Go.Proofs.Ytefnfebodlkldaa
/- THE CELL 'sum', in the pinned program and in every row, IS THE sha256 OF THE DUMP (.gsa) THAT YtefnfebodlkldaaProg.lean LOADS. Nothing in Lean hashes anything: it is a label: what it is worth is what the hold of that sum in a sandbox is worth. -/
noncomputable def Try.pinned : Pinned := { name := "ytefnfebodlkldaa", sum := "faa0553c09a12e206829e72a40230f9c622b23d22a4bc93344c10b6227390c7a", checked := Try.checked }
namespace Rows
def none {H : Type} : Left H := { results := [], args := [] }

/-- 'umbralaw13.MeshBox': WHATEVER THE INPUT: true; the input reads as it did. -/
def meshBoxSpec : ChangeSpec := { name := "meshBox", fn := fun _ => fun
  | [d] => { results := [.lit (.bool true)], args := [d] }
  | _ => none }
def meshBoxRow : OpenClaim := { program := "ytefnfebodlkldaa", sum := "faa0553c09a12e206829e72a40230f9c622b23d22a4bc93344c10b6227390c7a", func := "umbra/umbralaw13.MeshBox", spec := "meshBox", unfollowed := true, recurses := true, apart := false }
def MeshBoxSaid : Prop := meshBoxRow.holds Try.pinned (OpenSpec.ofChange meshBoxSpec)

/-- ITS FALSE NEIGHBOUR: 'it returns false'. Refute it at one input. -/
def meshBoxWrong : ChangeSpec := { name := "meshBox", fn := fun _ => fun
  | [d] => { results := [.lit (.bool false)], args := [d] }
  | _ => none }
def MeshBoxWrongFalsely : Prop := meshBoxRow.holds Try.pinned (OpenSpec.ofChange meshBoxWrong)

/-- 'umbralaw13.MeshEncodes': WHATEVER THE INPUT: true; the input reads as it did. -/
def meshEncodesSpec : ChangeSpec := { name := "meshEncodes", fn := fun _ => fun
  | [d] => { results := [.lit (.bool true)], args := [d] }
  | _ => none }
def meshEncodesRow : OpenClaim := { program := "ytefnfebodlkldaa", sum := "faa0553c09a12e206829e72a40230f9c622b23d22a4bc93344c10b6227390c7a", func := "umbra/umbralaw13.MeshEncodes", spec := "meshEncodes", unfollowed := true, recurses := true, apart := false }
def MeshEncodesSaid : Prop := meshEncodesRow.holds Try.pinned (OpenSpec.ofChange meshEncodesSpec)

/-- ITS FALSE NEIGHBOUR: 'it returns false'. Refute it at one input. -/
def meshEncodesWrong : ChangeSpec := { name := "meshEncodes", fn := fun _ => fun
  | [d] => { results := [.lit (.bool false)], args := [d] }
  | _ => none }
def MeshEncodesWrongFalsely : Prop := meshEncodesRow.holds Try.pinned (OpenSpec.ofChange meshEncodesWrong)

/-- 'umbralaw13.MeshCorners': WHATEVER THE INPUT: true; the input reads as it did. -/
def meshCornersSpec : ChangeSpec := { name := "meshCorners", fn := fun _ => fun
  | [d1, d2] => { results := [.lit (.bool true)], args := [d1, d2] }
  | _ => none }
def meshCornersRow : OpenClaim := { program := "ytefnfebodlkldaa", sum := "faa0553c09a12e206829e72a40230f9c622b23d22a4bc93344c10b6227390c7a", func := "umbra/umbralaw13.MeshCorners", spec := "meshCorners", unfollowed := true, recurses := true, apart := false }
def MeshCornersSaid : Prop := meshCornersRow.holds Try.pinned (OpenSpec.ofChange meshCornersSpec)

/-- ITS FALSE NEIGHBOUR: 'it returns false'. Refute it at one input. -/
def meshCornersWrong : ChangeSpec := { name := "meshCorners", fn := fun _ => fun
  | [d1, d2] => { results := [.lit (.bool false)], args := [d1, d2] }
  | _ => none }
def MeshCornersWrongFalsely : Prop := meshCornersRow.holds Try.pinned (OpenSpec.ofChange meshCornersWrong)

/-- 'umbralaw13.MeshDecodes': WHATEVER THE INPUT: true; the input reads as it did. -/
def meshDecodesSpec : ChangeSpec := { name := "meshDecodes", fn := fun _ => fun
  | [d] => { results := [.lit (.bool true)], args := [d] }
  | _ => none }
def meshDecodesRow : OpenClaim := { program := "ytefnfebodlkldaa", sum := "faa0553c09a12e206829e72a40230f9c622b23d22a4bc93344c10b6227390c7a", func := "umbra/umbralaw13.MeshDecodes", spec := "meshDecodes", unfollowed := true, recurses := true, apart := false }
def MeshDecodesSaid : Prop := meshDecodesRow.holds Try.pinned (OpenSpec.ofChange meshDecodesSpec)

/-- ITS FALSE NEIGHBOUR: 'it returns false'. Refute it at one input. -/
def meshDecodesWrong : ChangeSpec := { name := "meshDecodes", fn := fun _ => fun
  | [d] => { results := [.lit (.bool false)], args := [d] }
  | _ => none }
def MeshDecodesWrongFalsely : Prop := meshDecodesRow.holds Try.pinned (OpenSpec.ofChange meshDecodesWrong)

/-- 'umbralaw13.MeshBack': WHATEVER THE INPUT: true; the input reads as it did. -/
def meshBackSpec : ChangeSpec := { name := "meshBack", fn := fun _ => fun
  | [d1, d2] => { results := [.lit (.bool true)], args := [d1, d2] }
  | _ => none }
def meshBackRow : OpenClaim := { program := "ytefnfebodlkldaa", sum := "faa0553c09a12e206829e72a40230f9c622b23d22a4bc93344c10b6227390c7a", func := "umbra/umbralaw13.MeshBack", spec := "meshBack", unfollowed := true, recurses := true, apart := false }
def MeshBackSaid : Prop := meshBackRow.holds Try.pinned (OpenSpec.ofChange meshBackSpec)

/-- ITS FALSE NEIGHBOUR: 'it returns false'. Refute it at one input. -/
def meshBackWrong : ChangeSpec := { name := "meshBack", fn := fun _ => fun
  | [d1, d2] => { results := [.lit (.bool false)], args := [d1, d2] }
  | _ => none }
def MeshBackWrongFalsely : Prop := meshBackRow.holds Try.pinned (OpenSpec.ofChange meshBackWrong)

/- THE SECOND FORM. 'bulk': how many values and letters a reading holds, each counted each time it is reached (what is shared counts as often as it is met; a slice's spare places count too). A statement '..UptoSaid' is the law's where the arguments, and the package variables that the reading takes, are together of bulk at most 1048576: NARROWER than '..Said'. Prove '..Said' where nothing that the law and all that it calls make is longer than what came in: it says more and counts as full. Else prove '..UptoSaid'. A law counts once. -/
mutual
def uptoBulk {H : Type} : DataW H → Nat
  | .lit (.string bytes) => bytes.length + 1
  | .lit _ => 1
  | .nil => 1
  | .ptr d => uptoBulk d + 1
  | .slice elems spare => uptoBulkAll elems + uptoBulkAll spare + 1
  | .agg parts => uptoBulkAll parts + 1
  | .iface _ d => uptoBulk d + 1
  | .map entries => uptoBulkEntries entries + 1
  | .held _ => 1
def uptoBulkAll {H : Type} : List (DataW H) → Nat
  | [] => 0
  | d :: r => uptoBulk d + uptoBulkAll r
def uptoBulkEntries {H : Type} : List (Lit × DataW H) → Nat
  | [] => 0
  | x :: r => uptoBulkEntry x + uptoBulkEntries r
def uptoBulkEntry {H : Type} : Lit × DataW H → Nat
  | (.string bytes, d) => bytes.length + uptoBulk d + 1
  | (_, d) => uptoBulk d + 1
 end
def uptoSmall : (H : Type) → List (DataW H) → Bool := fun _ ds => decide (uptoBulkAll ds ≤ 1048576)
def OpenSpec.upto (s : _root_.Go.ChangeSpec) : _root_.Go.OpenSpec := { _root_.Go.OpenSpec.ofChange s with cond := some uptoSmall }

/-- 'umbralaw13.MeshBox', WHERE WHAT IT READS IS OF BULK AT MOST 1048576: true; the input reads as it did. -/
def meshBoxUptoRow : OpenClaim := { program := "ytefnfebodlkldaa", sum := "faa0553c09a12e206829e72a40230f9c622b23d22a4bc93344c10b6227390c7a", func := "umbra/umbralaw13.MeshBox", spec := "meshBox", unfollowed := true, recurses := true, apart := false, narrowed := true }
def MeshBoxUptoSaid : Prop := meshBoxUptoRow.holds Try.pinned (OpenSpec.upto meshBoxSpec)

/-- 'umbralaw13.MeshEncodes', WHERE WHAT IT READS IS OF BULK AT MOST 1048576: true; the input reads as it did. -/
def meshEncodesUptoRow : OpenClaim := { program := "ytefnfebodlkldaa", sum := "faa0553c09a12e206829e72a40230f9c622b23d22a4bc93344c10b6227390c7a", func := "umbra/umbralaw13.MeshEncodes", spec := "meshEncodes", unfollowed := true, recurses := true, apart := false, narrowed := true }
def MeshEncodesUptoSaid : Prop := meshEncodesUptoRow.holds Try.pinned (OpenSpec.upto meshEncodesSpec)

/-- 'umbralaw13.MeshCorners', WHERE WHAT IT READS IS OF BULK AT MOST 1048576: true; the input reads as it did. -/
def meshCornersUptoRow : OpenClaim := { program := "ytefnfebodlkldaa", sum := "faa0553c09a12e206829e72a40230f9c622b23d22a4bc93344c10b6227390c7a", func := "umbra/umbralaw13.MeshCorners", spec := "meshCorners", unfollowed := true, recurses := true, apart := false, narrowed := true }
def MeshCornersUptoSaid : Prop := meshCornersUptoRow.holds Try.pinned (OpenSpec.upto meshCornersSpec)

/-- 'umbralaw13.MeshDecodes', WHERE WHAT IT READS IS OF BULK AT MOST 1048576: true; the input reads as it did. -/
def meshDecodesUptoRow : OpenClaim := { program := "ytefnfebodlkldaa", sum := "faa0553c09a12e206829e72a40230f9c622b23d22a4bc93344c10b6227390c7a", func := "umbra/umbralaw13.MeshDecodes", spec := "meshDecodes", unfollowed := true, recurses := true, apart := false, narrowed := true }
def MeshDecodesUptoSaid : Prop := meshDecodesUptoRow.holds Try.pinned (OpenSpec.upto meshDecodesSpec)

/-- 'umbralaw13.MeshBack', WHERE WHAT IT READS IS OF BULK AT MOST 1048576: true; the input reads as it did. -/
def meshBackUptoRow : OpenClaim := { program := "ytefnfebodlkldaa", sum := "faa0553c09a12e206829e72a40230f9c622b23d22a4bc93344c10b6227390c7a", func := "umbra/umbralaw13.MeshBack", spec := "meshBack", unfollowed := true, recurses := true, apart := false, narrowed := true }
def MeshBackUptoSaid : Prop := meshBackUptoRow.holds Try.pinned (OpenSpec.upto meshBackSpec)

end Rows
end Go.Proofs.Ytefnfebodlkldaa
