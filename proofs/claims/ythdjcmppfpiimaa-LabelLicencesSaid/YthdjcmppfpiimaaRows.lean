/-
  No cell of these rows narrows 'for every input' (looked for: loops, veiled, ifaces, maps, wideKeys, modest, calm, conditions, laid).
  DERIVED. THE GIVEN ROWS OF THIS SEAT. 5 by the template 'for every input the law returns true; each argument reads behind the call as it read before'; 0 by the template 'total and deterministic' (their statements: YthdjcmppfpiimaaTotals.lean).
  GIVEN WITH THE SEED: the statements are not yours to turn. If you find one false, say at which input.
  Laid BY PROGRAM, IN A SANDBOX (cutbox-rows.mjs): the forced cells as the released guide's own fill.sh prints them over the translation 28cd9165827054fe… (all of the seat's roots in one cut). By AI agents, Wed Nov 11 2026. No macro, syntax, notation, axiom, sorry.
-/
import Derived.Test.YthdjcmppfpiimaaChecked
import GoSem.Claim
import GoSem.ClaimJoined
import GoSem.ClaimMapViews
import Derived.JoinedTies
import Derived.KernelRfl
namespace Go.Proofs.Ythdjcmppfpiimaa
/- THE CELL 'sum', in the pinned program and in every row, IS THE sha256 OF THE DUMP (.gsa) THAT YthdjcmppfpiimaaProg.lean LOADS. Nothing in Lean hashes anything: it is a label: what it is worth is what the hold of that sum in a sandbox is worth. -/
noncomputable def Try.pinned : Pinned := { name := "ythdjcmppfpiimaa", sum := "28cd9165827054fe61a0b4bdd9ba10b2f23160795d779a8ca3e925380026c4d9", checked := Try.checked }
namespace Rows
def none {H : Type} : Left H := { results := [], args := [] }

/-- 'umbralaw17.LabelJoins': WHATEVER THE INPUT: true; the input reads as it did. -/
def labelJoinsSpec : ChangeSpec := { name := "labelJoins", fn := fun _ => fun
  | [d1, d2, d3] => { results := [.lit (.bool true)], args := [d1, d2, d3] }
  | _ => none }
def labelJoinsRow : OpenClaim := { program := "ythdjcmppfpiimaa", sum := "28cd9165827054fe61a0b4bdd9ba10b2f23160795d779a8ca3e925380026c4d9", func := "umbra/umbralaw17.LabelJoins", spec := "labelJoins", unfollowed := true, recurses := true, apart := false }
def LabelJoinsSaid : Prop := labelJoinsRow.holds Try.pinned (OpenSpec.ofChange labelJoinsSpec)

/-- ITS FALSE NEIGHBOUR: 'it returns false'. Refute it at one input. -/
def labelJoinsWrong : ChangeSpec := { name := "labelJoins", fn := fun _ => fun
  | [d1, d2, d3] => { results := [.lit (.bool false)], args := [d1, d2, d3] }
  | _ => none }
def LabelJoinsWrongFalsely : Prop := labelJoinsRow.holds Try.pinned (OpenSpec.ofChange labelJoinsWrong)

/-- 'umbralaw17.LabelLeast': WHATEVER THE INPUT: true; the input reads as it did. -/
def labelLeastSpec : ChangeSpec := { name := "labelLeast", fn := fun _ => fun
  | [d1, d2, d3] => { results := [.lit (.bool true)], args := [d1, d2, d3] }
  | _ => none }
def labelLeastRow : OpenClaim := { program := "ythdjcmppfpiimaa", sum := "28cd9165827054fe61a0b4bdd9ba10b2f23160795d779a8ca3e925380026c4d9", func := "umbra/umbralaw17.LabelLeast", spec := "labelLeast", unfollowed := true, recurses := true, apart := false }
def LabelLeastSaid : Prop := labelLeastRow.holds Try.pinned (OpenSpec.ofChange labelLeastSpec)

/-- ITS FALSE NEIGHBOUR: 'it returns false'. Refute it at one input. -/
def labelLeastWrong : ChangeSpec := { name := "labelLeast", fn := fun _ => fun
  | [d1, d2, d3] => { results := [.lit (.bool false)], args := [d1, d2, d3] }
  | _ => none }
def LabelLeastWrongFalsely : Prop := labelLeastRow.holds Try.pinned (OpenSpec.ofChange labelLeastWrong)

/-- 'umbralaw17.LabelOrder': WHATEVER THE INPUT: true; the input reads as it did. -/
def labelOrderSpec : ChangeSpec := { name := "labelOrder", fn := fun _ => fun
  | [d1, d2, d3] => { results := [.lit (.bool true)], args := [d1, d2, d3] }
  | _ => none }
def labelOrderRow : OpenClaim := { program := "ythdjcmppfpiimaa", sum := "28cd9165827054fe61a0b4bdd9ba10b2f23160795d779a8ca3e925380026c4d9", func := "umbra/umbralaw17.LabelOrder", spec := "labelOrder", unfollowed := true, recurses := true, apart := false }
def LabelOrderSaid : Prop := labelOrderRow.holds Try.pinned (OpenSpec.ofChange labelOrderSpec)

/-- ITS FALSE NEIGHBOUR: 'it returns false'. Refute it at one input. -/
def labelOrderWrong : ChangeSpec := { name := "labelOrder", fn := fun _ => fun
  | [d1, d2, d3] => { results := [.lit (.bool false)], args := [d1, d2, d3] }
  | _ => none }
def LabelOrderWrongFalsely : Prop := labelOrderRow.holds Try.pinned (OpenSpec.ofChange labelOrderWrong)

/-- 'umbralaw17.LabelMasks': WHATEVER THE INPUT: true; the input reads as it did. -/
def labelMasksSpec : ChangeSpec := { name := "labelMasks", fn := fun _ => fun
  | [d1, d2] => { results := [.lit (.bool true)], args := [d1, d2] }
  | _ => none }
def labelMasksRow : OpenClaim := { program := "ythdjcmppfpiimaa", sum := "28cd9165827054fe61a0b4bdd9ba10b2f23160795d779a8ca3e925380026c4d9", func := "umbra/umbralaw17.LabelMasks", spec := "labelMasks", unfollowed := true, recurses := true, apart := false }
def LabelMasksSaid : Prop := labelMasksRow.holds Try.pinned (OpenSpec.ofChange labelMasksSpec)

/-- ITS FALSE NEIGHBOUR: 'it returns false'. Refute it at one input. -/
def labelMasksWrong : ChangeSpec := { name := "labelMasks", fn := fun _ => fun
  | [d1, d2] => { results := [.lit (.bool false)], args := [d1, d2] }
  | _ => none }
def LabelMasksWrongFalsely : Prop := labelMasksRow.holds Try.pinned (OpenSpec.ofChange labelMasksWrong)

/-- 'umbralaw17.LabelLicences': WHATEVER THE INPUT: true; the input reads as it did. -/
def labelLicencesSpec : ChangeSpec := { name := "labelLicences", fn := fun _ => fun
  | [d1, d2, d3] => { results := [.lit (.bool true)], args := [d1, d2, d3] }
  | _ => none }
def labelLicencesRow : OpenClaim := { program := "ythdjcmppfpiimaa", sum := "28cd9165827054fe61a0b4bdd9ba10b2f23160795d779a8ca3e925380026c4d9", func := "umbra/umbralaw17.LabelLicences", spec := "labelLicences", unfollowed := true, recurses := true, apart := false }
def LabelLicencesSaid : Prop := labelLicencesRow.holds Try.pinned (OpenSpec.ofChange labelLicencesSpec)

/-- ITS FALSE NEIGHBOUR: 'it returns false'. Refute it at one input. -/
def labelLicencesWrong : ChangeSpec := { name := "labelLicences", fn := fun _ => fun
  | [d1, d2, d3] => { results := [.lit (.bool false)], args := [d1, d2, d3] }
  | _ => none }
def LabelLicencesWrongFalsely : Prop := labelLicencesRow.holds Try.pinned (OpenSpec.ofChange labelLicencesWrong)

/- THE SECOND FORM. 'bulk': how many values and letters a reading holds, each counted each time it is reached (what is shared counts as often as it is met; a slice's spare places count too). A statement '..UptoSaid' is the law's where the arguments, and the package variables that the reading takes, are together of bulk at most 1048576: NARROWER than '..Said'. Prove '..Said' where nothing that the law and all that it calls make is longer than what came in: it says more and counts as full. Else prove '..UptoSaid'. A law counts once. -/
mutual
def uptoBulk {H : Type} : DataW H → Nat
  | .lit (.string bytes) => bytes.length + 1
  | .lit _ => 1
  | .nil => 1
  | .ptr d => uptoBulk d + 1
  | .slice elems spare => uptoBulkAll elems + uptoBulkAll spare + 1
  | .agg parts => uptoBulkAll parts + 1
  | .iface _ d => uptoBulk d + 1
  | .map entries => uptoBulkEntries entries + 1
  | .held _ => 1
def uptoBulkAll {H : Type} : List (DataW H) → Nat
  | [] => 0
  | d :: r => uptoBulk d + uptoBulkAll r
def uptoBulkEntries {H : Type} : List (Lit × DataW H) → Nat
  | [] => 0
  | x :: r => uptoBulkEntry x + uptoBulkEntries r
def uptoBulkEntry {H : Type} : Lit × DataW H → Nat
  | (.string bytes, d) => bytes.length + uptoBulk d + 1
  | (_, d) => uptoBulk d + 1
 end
def uptoSmall : (H : Type) → List (DataW H) → Bool := fun _ ds => decide (uptoBulkAll ds ≤ 1048576)
def OpenSpec.upto (s : _root_.Go.ChangeSpec) : _root_.Go.OpenSpec := { _root_.Go.OpenSpec.ofChange s with cond := some uptoSmall }

/-- 'umbralaw17.LabelJoins', WHERE WHAT IT READS IS OF BULK AT MOST 1048576: true; the input reads as it did. -/
def labelJoinsUptoRow : OpenClaim := { program := "ythdjcmppfpiimaa", sum := "28cd9165827054fe61a0b4bdd9ba10b2f23160795d779a8ca3e925380026c4d9", func := "umbra/umbralaw17.LabelJoins", spec := "labelJoins", unfollowed := true, recurses := true, apart := false, narrowed := true }
def LabelJoinsUptoSaid : Prop := labelJoinsUptoRow.holds Try.pinned (OpenSpec.upto labelJoinsSpec)

/-- 'umbralaw17.LabelLeast', WHERE WHAT IT READS IS OF BULK AT MOST 1048576: true; the input reads as it did. -/
def labelLeastUptoRow : OpenClaim := { program := "ythdjcmppfpiimaa", sum := "28cd9165827054fe61a0b4bdd9ba10b2f23160795d779a8ca3e925380026c4d9", func := "umbra/umbralaw17.LabelLeast", spec := "labelLeast", unfollowed := true, recurses := true, apart := false, narrowed := true }
def LabelLeastUptoSaid : Prop := labelLeastUptoRow.holds Try.pinned (OpenSpec.upto labelLeastSpec)

/-- 'umbralaw17.LabelOrder', WHERE WHAT IT READS IS OF BULK AT MOST 1048576: true; the input reads as it did. -/
def labelOrderUptoRow : OpenClaim := { program := "ythdjcmppfpiimaa", sum := "28cd9165827054fe61a0b4bdd9ba10b2f23160795d779a8ca3e925380026c4d9", func := "umbra/umbralaw17.LabelOrder", spec := "labelOrder", unfollowed := true, recurses := true, apart := false, narrowed := true }
def LabelOrderUptoSaid : Prop := labelOrderUptoRow.holds Try.pinned (OpenSpec.upto labelOrderSpec)

/-- 'umbralaw17.LabelMasks', WHERE WHAT IT READS IS OF BULK AT MOST 1048576: true; the input reads as it did. -/
def labelMasksUptoRow : OpenClaim := { program := "ythdjcmppfpiimaa", sum := "28cd9165827054fe61a0b4bdd9ba10b2f23160795d779a8ca3e925380026c4d9", func := "umbra/umbralaw17.LabelMasks", spec := "labelMasks", unfollowed := true, recurses := true, apart := false, narrowed := true }
def LabelMasksUptoSaid : Prop := labelMasksUptoRow.holds Try.pinned (OpenSpec.upto labelMasksSpec)

/-- 'umbralaw17.LabelLicences', WHERE WHAT IT READS IS OF BULK AT MOST 1048576: true; the input reads as it did. -/
def labelLicencesUptoRow : OpenClaim := { program := "ythdjcmppfpiimaa", sum := "28cd9165827054fe61a0b4bdd9ba10b2f23160795d779a8ca3e925380026c4d9", func := "umbra/umbralaw17.LabelLicences", spec := "labelLicences", unfollowed := true, recurses := true, apart := false, narrowed := true }
def LabelLicencesUptoSaid : Prop := labelLicencesUptoRow.holds Try.pinned (OpenSpec.upto labelLicencesSpec)

end Rows
end Go.Proofs.Ythdjcmppfpiimaa
