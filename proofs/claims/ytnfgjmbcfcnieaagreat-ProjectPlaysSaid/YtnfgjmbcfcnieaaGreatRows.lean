/-
  No cell of these rows narrows 'for every input' (looked for: loops, veiled, ifaces, maps, wideKeys, modest, calm, conditions, laid).
  DERIVED. THE GIVEN ROWS OF THIS SEAT. 4 by the template 'for every input the law returns true; each argument reads behind the call as it read before'; 0 by the template 'total and deterministic' (their statements: YtnfgjmbcfcnieaaGreatTotals.lean).
  GIVEN WITH THE SEED: the statements are not yours to turn. If you find one false, say at which input.
  Laid BY PROGRAM, IN A SANDBOX (cutbox-rows.mjs): the forced cells as the released guide's own fill.sh prints them over the translation 4eb8b64ebc6de10d… (all of the seat's roots in one cut). By AI agents, Wed Nov 11 2026. No macro, syntax, notation, axiom, sorry.
-/
import Derived.Test.YtnfgjmbcfcnieaaGreatChecked
import GoSem.Claim
import GoSem.ClaimJoined
import GoSem.ClaimMapViews
import Derived.JoinedTies
import Derived.KernelRfl
namespace Go.Proofs.YtnfgjmbcfcnieaaGreat
/- THE CELL 'sum', in the pinned program and in every row, IS THE sha256 OF THE DUMP (.gsa) THAT YtnfgjmbcfcnieaaGreatProg.lean LOADS. Nothing in Lean hashes anything: it is a label: what it is worth is what the hold of that sum in a sandbox is worth. -/
noncomputable def Tryz.pinned : Pinned := { name := "ytnfgjmbcfcnieaagreat", sum := "4eb8b64ebc6de10d2ae305923326fd40bfd288f11b0cb84259e6aa90c5108626", checked := Tryz.checked }
namespace Rows
def none {H : Type} : Left H := { results := [], args := [] }

/-- 'umbralaw19.ProjectHides': WHATEVER THE INPUT: true; the input reads as it did. -/
def projectHidesSpec : ChangeSpec := { name := "projectHides", fn := fun _ => fun
  | [d1, d2] => { results := [.lit (.bool true)], args := [d1, d2] }
  | _ => none }
def projectHidesRow : OpenClaim := { program := "ytnfgjmbcfcnieaagreat", sum := "4eb8b64ebc6de10d2ae305923326fd40bfd288f11b0cb84259e6aa90c5108626", func := "umbra/umbralaw19.ProjectHides", spec := "projectHides", inPlace := ["math/bits.Sub64", "maps.clone"], unfollowed := true, recurses := true, plainKeys := false, apart := false }
def ProjectHidesSaid : Prop := projectHidesRow.holds Tryz.pinned (OpenSpec.ofChange projectHidesSpec)

/-- ITS FALSE NEIGHBOUR: 'it returns false'. Refute it at one input. -/
def projectHidesWrong : ChangeSpec := { name := "projectHides", fn := fun _ => fun
  | [d1, d2] => { results := [.lit (.bool false)], args := [d1, d2] }
  | _ => none }
def ProjectHidesWrongFalsely : Prop := projectHidesRow.holds Tryz.pinned (OpenSpec.ofChange projectHidesWrong)

/-- 'umbralaw19.ProjectSound': WHATEVER THE INPUT: true; the input reads as it did. -/
def projectSoundSpec : ChangeSpec := { name := "projectSound", fn := fun _ => fun
  | [d1, d2] => { results := [.lit (.bool true)], args := [d1, d2] }
  | _ => none }
def projectSoundRow : OpenClaim := { program := "ytnfgjmbcfcnieaagreat", sum := "4eb8b64ebc6de10d2ae305923326fd40bfd288f11b0cb84259e6aa90c5108626", func := "umbra/umbralaw19.ProjectSound", spec := "projectSound", inPlace := ["math/bits.Sub64", "maps.clone"], unfollowed := true, recurses := true, plainKeys := false, apart := false }
def ProjectSoundSaid : Prop := projectSoundRow.holds Tryz.pinned (OpenSpec.ofChange projectSoundSpec)

/-- ITS FALSE NEIGHBOUR: 'it returns false'. Refute it at one input. -/
def projectSoundWrong : ChangeSpec := { name := "projectSound", fn := fun _ => fun
  | [d1, d2] => { results := [.lit (.bool false)], args := [d1, d2] }
  | _ => none }
def ProjectSoundWrongFalsely : Prop := projectSoundRow.holds Tryz.pinned (OpenSpec.ofChange projectSoundWrong)

/-- 'umbralaw19.ProjectEncodes': WHATEVER THE INPUT: true; the input reads as it did. -/
def projectEncodesSpec : ChangeSpec := { name := "projectEncodes", fn := fun _ => fun
  | [d1, d2] => { results := [.lit (.bool true)], args := [d1, d2] }
  | _ => none }
def projectEncodesRow : OpenClaim := { program := "ytnfgjmbcfcnieaagreat", sum := "4eb8b64ebc6de10d2ae305923326fd40bfd288f11b0cb84259e6aa90c5108626", func := "umbra/umbralaw19.ProjectEncodes", spec := "projectEncodes", inPlace := ["math/bits.Sub64", "maps.clone"], unfollowed := true, recurses := true, plainKeys := false, apart := false }
def ProjectEncodesSaid : Prop := projectEncodesRow.holds Tryz.pinned (OpenSpec.ofChange projectEncodesSpec)

/-- ITS FALSE NEIGHBOUR: 'it returns false'. Refute it at one input. -/
def projectEncodesWrong : ChangeSpec := { name := "projectEncodes", fn := fun _ => fun
  | [d1, d2] => { results := [.lit (.bool false)], args := [d1, d2] }
  | _ => none }
def ProjectEncodesWrongFalsely : Prop := projectEncodesRow.holds Tryz.pinned (OpenSpec.ofChange projectEncodesWrong)

/-- 'umbralaw19.ProjectPlays': WHATEVER THE INPUT: true; the input reads as it did. -/
def projectPlaysSpec : ChangeSpec := { name := "projectPlays", fn := fun _ => fun
  | [d1, d2, d3] => { results := [.lit (.bool true)], args := [d1, d2, d3] }
  | _ => none }
def projectPlaysRow : OpenClaim := { program := "ytnfgjmbcfcnieaagreat", sum := "4eb8b64ebc6de10d2ae305923326fd40bfd288f11b0cb84259e6aa90c5108626", func := "umbra/umbralaw19.ProjectPlays", spec := "projectPlays", inPlace := ["math/bits.Sub64", "maps.clone"], unfollowed := true, recurses := true, plainKeys := false, apart := false }
def ProjectPlaysSaid : Prop := projectPlaysRow.holds Tryz.pinned (OpenSpec.ofChange projectPlaysSpec)

/-- ITS FALSE NEIGHBOUR: 'it returns false'. Refute it at one input. -/
def projectPlaysWrong : ChangeSpec := { name := "projectPlays", fn := fun _ => fun
  | [d1, d2, d3] => { results := [.lit (.bool false)], args := [d1, d2, d3] }
  | _ => none }
def ProjectPlaysWrongFalsely : Prop := projectPlaysRow.holds Tryz.pinned (OpenSpec.ofChange projectPlaysWrong)

/- THE SECOND FORM. 'bulk': how many values and letters a reading holds, each counted each time it is reached (what is shared counts as often as it is met; a slice's spare places count too). A statement '..UptoSaid' is the law's where the arguments, and the package variables that the reading takes, are together of bulk at most 1048576: NARROWER than '..Said'. Prove '..Said' where nothing that the law and all that it calls make is longer than what came in: it says more and counts as full. Else prove '..UptoSaid'. A law counts once. -/
mutual
def uptoBulk {H : Type} : DataW H → Nat
  | .lit (.string bytes) => bytes.length + 1
  | .lit _ => 1
  | .nil => 1
  | .ptr d => uptoBulk d + 1
  | .slice elems spare => uptoBulkAll elems + uptoBulkAll spare + 1
  | .agg parts => uptoBulkAll parts + 1
  | .iface _ d => uptoBulk d + 1
  | .map entries => uptoBulkEntries entries + 1
  | .held _ => 1
def uptoBulkAll {H : Type} : List (DataW H) → Nat
  | [] => 0
  | d :: r => uptoBulk d + uptoBulkAll r
def uptoBulkEntries {H : Type} : List (Lit × DataW H) → Nat
  | [] => 0
  | x :: r => uptoBulkEntry x + uptoBulkEntries r
def uptoBulkEntry {H : Type} : Lit × DataW H → Nat
  | (.string bytes, d) => bytes.length + uptoBulk d + 1
  | (_, d) => uptoBulk d + 1
 end
def uptoSmall : (H : Type) → List (DataW H) → Bool := fun _ ds => decide (uptoBulkAll ds ≤ 1048576)
def OpenSpec.upto (s : _root_.Go.ChangeSpec) : _root_.Go.OpenSpec := { _root_.Go.OpenSpec.ofChange s with cond := some uptoSmall }

/-- 'umbralaw19.ProjectHides', WHERE WHAT IT READS IS OF BULK AT MOST 1048576: true; the input reads as it did. -/
def projectHidesUptoRow : OpenClaim := { program := "ytnfgjmbcfcnieaagreat", sum := "4eb8b64ebc6de10d2ae305923326fd40bfd288f11b0cb84259e6aa90c5108626", func := "umbra/umbralaw19.ProjectHides", spec := "projectHides", inPlace := ["math/bits.Sub64", "maps.clone"], unfollowed := true, recurses := true, plainKeys := false, apart := false, narrowed := true }
def ProjectHidesUptoSaid : Prop := projectHidesUptoRow.holds Tryz.pinned (OpenSpec.upto projectHidesSpec)

/-- 'umbralaw19.ProjectSound', WHERE WHAT IT READS IS OF BULK AT MOST 1048576: true; the input reads as it did. -/
def projectSoundUptoRow : OpenClaim := { program := "ytnfgjmbcfcnieaagreat", sum := "4eb8b64ebc6de10d2ae305923326fd40bfd288f11b0cb84259e6aa90c5108626", func := "umbra/umbralaw19.ProjectSound", spec := "projectSound", inPlace := ["math/bits.Sub64", "maps.clone"], unfollowed := true, recurses := true, plainKeys := false, apart := false, narrowed := true }
def ProjectSoundUptoSaid : Prop := projectSoundUptoRow.holds Tryz.pinned (OpenSpec.upto projectSoundSpec)

/-- 'umbralaw19.ProjectEncodes', WHERE WHAT IT READS IS OF BULK AT MOST 1048576: true; the input reads as it did. -/
def projectEncodesUptoRow : OpenClaim := { program := "ytnfgjmbcfcnieaagreat", sum := "4eb8b64ebc6de10d2ae305923326fd40bfd288f11b0cb84259e6aa90c5108626", func := "umbra/umbralaw19.ProjectEncodes", spec := "projectEncodes", inPlace := ["math/bits.Sub64", "maps.clone"], unfollowed := true, recurses := true, plainKeys := false, apart := false, narrowed := true }
def ProjectEncodesUptoSaid : Prop := projectEncodesUptoRow.holds Tryz.pinned (OpenSpec.upto projectEncodesSpec)

/-- 'umbralaw19.ProjectPlays', WHERE WHAT IT READS IS OF BULK AT MOST 1048576: true; the input reads as it did. -/
def projectPlaysUptoRow : OpenClaim := { program := "ytnfgjmbcfcnieaagreat", sum := "4eb8b64ebc6de10d2ae305923326fd40bfd288f11b0cb84259e6aa90c5108626", func := "umbra/umbralaw19.ProjectPlays", spec := "projectPlays", inPlace := ["math/bits.Sub64", "maps.clone"], unfollowed := true, recurses := true, plainKeys := false, apart := false, narrowed := true }
def ProjectPlaysUptoSaid : Prop := projectPlaysUptoRow.holds Tryz.pinned (OpenSpec.upto projectPlaysSpec)

end Rows
end Go.Proofs.YtnfgjmbcfcnieaaGreat
