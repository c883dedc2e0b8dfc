/-
  No cell of these rows narrows 'for every input' (looked for: loops, veiled, ifaces, maps, wideKeys, modest, calm, conditions, laid).
  DERIVED. THE GIVEN ROWS OF THIS SEAT. 7 by the template 'for every input the law returns true; each argument reads behind the call as it read before'; 0 by the template 'total and deterministic' (their statements: YthnphjpjgcmdbaaTotals.lean).
  GIVEN WITH THE SEED: the statements are not yours to turn. If you find one false, say at which input.
  Laid BY PROGRAM, IN A SANDBOX (cutbox-rows.mjs): the forced cells as the released guide's own fill.sh prints them over the translation feb3048ed6d9b950… (all of the seat's roots in one cut). By AI agents, Wed Nov 11 2026. No macro, syntax, notation, axiom, sorry.
-/
import Derived.Test.YthnphjpjgcmdbaaChecked
import GoSem.Claim
import GoSem.ClaimJoined
import GoSem.ClaimMapViews
import Derived.JoinedTies
import Derived.KernelRfl
namespace Go.Proofs.Ythnphjpjgcmdbaa
/- THE CELL 'sum', in the pinned program and in every row, IS THE sha256 OF THE DUMP (.gsa) THAT YthnphjpjgcmdbaaProg.lean LOADS. Nothing in Lean hashes anything: it is a label: what it is worth is what the hold of that sum in a sandbox is worth. -/
noncomputable def Try.pinned : Pinned := { name := "ythnphjpjgcmdbaa", sum := "feb3048ed6d9b9509a4518958a8ec38daaeed9ff57a76d617eb2caaebfa69981", checked := Try.checked }
namespace Rows
def none {H : Type} : Left H := { results := [], args := [] }

/-- 'umbralaw04.AffineMakes': WHATEVER THE INPUT: true; the input reads as it did. -/
def affineMakesSpec : ChangeSpec := { name := "affineMakes", fn := fun _ => fun
  | [d1, d2, d3] => { results := [.lit (.bool true)], args := [d1, d2, d3] }
  | _ => none }
def affineMakesRow : OpenClaim := { program := "ythnphjpjgcmdbaa", sum := "feb3048ed6d9b9509a4518958a8ec38daaeed9ff57a76d617eb2caaebfa69981", func := "umbra/umbralaw04.AffineMakes", spec := "affineMakes", inPlace := ["math/bits.Sub64"], unfollowed := true, recurses := true, apart := false }
def AffineMakesSaid : Prop := affineMakesRow.holds Try.pinned (OpenSpec.ofChange affineMakesSpec)

/-- ITS FALSE NEIGHBOUR: 'it returns false'. Refute it at one input. -/
def affineMakesWrong : ChangeSpec := { name := "affineMakes", fn := fun _ => fun
  | [d1, d2, d3] => { results := [.lit (.bool false)], args := [d1, d2, d3] }
  | _ => none }
def AffineMakesWrongFalsely : Prop := affineMakesRow.holds Try.pinned (OpenSpec.ofChange affineMakesWrong)

/-- 'umbralaw04.AffineApplies': WHATEVER THE INPUT: true; the input reads as it did. -/
def affineAppliesSpec : ChangeSpec := { name := "affineApplies", fn := fun _ => fun
  | [d1, d2] => { results := [.lit (.bool true)], args := [d1, d2] }
  | _ => none }
def affineAppliesRow : OpenClaim := { program := "ythnphjpjgcmdbaa", sum := "feb3048ed6d9b9509a4518958a8ec38daaeed9ff57a76d617eb2caaebfa69981", func := "umbra/umbralaw04.AffineApplies", spec := "affineApplies", inPlace := ["math/bits.Sub64"], unfollowed := true, recurses := true, apart := false }
def AffineAppliesSaid : Prop := affineAppliesRow.holds Try.pinned (OpenSpec.ofChange affineAppliesSpec)

/-- ITS FALSE NEIGHBOUR: 'it returns false'. Refute it at one input. -/
def affineAppliesWrong : ChangeSpec := { name := "affineApplies", fn := fun _ => fun
  | [d1, d2] => { results := [.lit (.bool false)], args := [d1, d2] }
  | _ => none }
def AffineAppliesWrongFalsely : Prop := affineAppliesRow.holds Try.pinned (OpenSpec.ofChange affineAppliesWrong)

/-- 'umbralaw04.AffineThen': WHATEVER THE INPUT: true; the input reads as it did. -/
def affineThenSpec : ChangeSpec := { name := "affineThen", fn := fun _ => fun
  | [d] => { results := [.lit (.bool true)], args := [d] }
  | _ => none }
def affineThenRow : OpenClaim := { program := "ythnphjpjgcmdbaa", sum := "feb3048ed6d9b9509a4518958a8ec38daaeed9ff57a76d617eb2caaebfa69981", func := "umbra/umbralaw04.AffineThen", spec := "affineThen", inPlace := ["math/bits.Sub64"], unfollowed := true, recurses := true, apart := false }
def AffineThenSaid : Prop := affineThenRow.holds Try.pinned (OpenSpec.ofChange affineThenSpec)

/-- ITS FALSE NEIGHBOUR: 'it returns false'. Refute it at one input. -/
def affineThenWrong : ChangeSpec := { name := "affineThen", fn := fun _ => fun
  | [d] => { results := [.lit (.bool false)], args := [d] }
  | _ => none }
def AffineThenWrongFalsely : Prop := affineThenRow.holds Try.pinned (OpenSpec.ofChange affineThenWrong)

/-- 'umbralaw04.AffinePlaces': WHATEVER THE INPUT: true; the input reads as it did. -/
def affinePlacesSpec : ChangeSpec := { name := "affinePlaces", fn := fun _ => fun
  | [d1, d2, d3] => { results := [.lit (.bool true)], args := [d1, d2, d3] }
  | _ => none }
def affinePlacesRow : OpenClaim := { program := "ythnphjpjgcmdbaa", sum := "feb3048ed6d9b9509a4518958a8ec38daaeed9ff57a76d617eb2caaebfa69981", func := "umbra/umbralaw04.AffinePlaces", spec := "affinePlaces", inPlace := ["math/bits.Sub64"], unfollowed := true, recurses := true, apart := false }
def AffinePlacesSaid : Prop := affinePlacesRow.holds Try.pinned (OpenSpec.ofChange affinePlacesSpec)

/-- ITS FALSE NEIGHBOUR: 'it returns false'. Refute it at one input. -/
def affinePlacesWrong : ChangeSpec := { name := "affinePlaces", fn := fun _ => fun
  | [d1, d2, d3] => { results := [.lit (.bool false)], args := [d1, d2, d3] }
  | _ => none }
def AffinePlacesWrongFalsely : Prop := affinePlacesRow.holds Try.pinned (OpenSpec.ofChange affinePlacesWrong)

/-- 'umbralaw04.AffineSame': WHATEVER THE INPUT: true; the input reads as it did. -/
def affineSameSpec : ChangeSpec := { name := "affineSame", fn := fun _ => fun
  | [d1, d2] => { results := [.lit (.bool true)], args := [d1, d2] }
  | _ => none }
def affineSameRow : OpenClaim := { program := "ythnphjpjgcmdbaa", sum := "feb3048ed6d9b9509a4518958a8ec38daaeed9ff57a76d617eb2caaebfa69981", func := "umbra/umbralaw04.AffineSame", spec := "affineSame", inPlace := ["math/bits.Sub64"], unfollowed := true, recurses := true, apart := false }
def AffineSameSaid : Prop := affineSameRow.holds Try.pinned (OpenSpec.ofChange affineSameSpec)

/-- ITS FALSE NEIGHBOUR: 'it returns false'. Refute it at one input. -/
def affineSameWrong : ChangeSpec := { name := "affineSame", fn := fun _ => fun
  | [d1, d2] => { results := [.lit (.bool false)], args := [d1, d2] }
  | _ => none }
def AffineSameWrongFalsely : Prop := affineSameRow.holds Try.pinned (OpenSpec.ofChange affineSameWrong)

/-- 'umbralaw04.AffineWhole': WHATEVER THE INPUT: true; the input reads as it did. -/
def affineWholeSpec : ChangeSpec := { name := "affineWhole", fn := fun _ => fun
  | [d1, d2, d3] => { results := [.lit (.bool true)], args := [d1, d2, d3] }
  | _ => none }
def affineWholeRow : OpenClaim := { program := "ythnphjpjgcmdbaa", sum := "feb3048ed6d9b9509a4518958a8ec38daaeed9ff57a76d617eb2caaebfa69981", func := "umbra/umbralaw04.AffineWhole", spec := "affineWhole", inPlace := ["math/bits.Sub64"], unfollowed := true, recurses := true, apart := false }
def AffineWholeSaid : Prop := affineWholeRow.holds Try.pinned (OpenSpec.ofChange affineWholeSpec)

/-- ITS FALSE NEIGHBOUR: 'it returns false'. Refute it at one input. -/
def affineWholeWrong : ChangeSpec := { name := "affineWhole", fn := fun _ => fun
  | [d1, d2, d3] => { results := [.lit (.bool false)], args := [d1, d2, d3] }
  | _ => none }
def AffineWholeWrongFalsely : Prop := affineWholeRow.holds Try.pinned (OpenSpec.ofChange affineWholeWrong)

/-- 'umbralaw04.AffineGrid': WHATEVER THE INPUT: true; the input reads as it did. -/
def affineGridSpec : ChangeSpec := { name := "affineGrid", fn := fun _ => fun
  | [d1, d2] => { results := [.lit (.bool true)], args := [d1, d2] }
  | _ => none }
def affineGridRow : OpenClaim := { program := "ythnphjpjgcmdbaa", sum := "feb3048ed6d9b9509a4518958a8ec38daaeed9ff57a76d617eb2caaebfa69981", func := "umbra/umbralaw04.AffineGrid", spec := "affineGrid", inPlace := ["math/bits.Sub64"], unfollowed := true, recurses := true, apart := false }
def AffineGridSaid : Prop := affineGridRow.holds Try.pinned (OpenSpec.ofChange affineGridSpec)

/-- ITS FALSE NEIGHBOUR: 'it returns false'. Refute it at one input. -/
def affineGridWrong : ChangeSpec := { name := "affineGrid", fn := fun _ => fun
  | [d1, d2] => { results := [.lit (.bool false)], args := [d1, d2] }
  | _ => none }
def AffineGridWrongFalsely : Prop := affineGridRow.holds Try.pinned (OpenSpec.ofChange affineGridWrong)

/- THE SECOND FORM. 'bulk': how many values and letters a reading holds, each counted each time it is reached (what is shared counts as often as it is met; a slice's spare places count too). A statement '..UptoSaid' is the law's where the arguments, and the package variables that the reading takes, are together of bulk at most 1048576: NARROWER than '..Said'. Prove '..Said' where nothing that the law and all that it calls make is longer than what came in: it says more and counts as full. Else prove '..UptoSaid'. A law counts once. -/
mutual
def uptoBulk {H : Type} : DataW H → Nat
  | .lit (.string bytes) => bytes.length + 1
  | .lit _ => 1
  | .nil => 1
  | .ptr d => uptoBulk d + 1
  | .slice elems spare => uptoBulkAll elems + uptoBulkAll spare + 1
  | .agg parts => uptoBulkAll parts + 1
  | .iface _ d => uptoBulk d + 1
  | .map entries => uptoBulkEntries entries + 1
  | .held _ => 1
def uptoBulkAll {H : Type} : List (DataW H) → Nat
  | [] => 0
  | d :: r => uptoBulk d + uptoBulkAll r
def uptoBulkEntries {H : Type} : List (Lit × DataW H) → Nat
  | [] => 0
  | x :: r => uptoBulkEntry x + uptoBulkEntries r
def uptoBulkEntry {H : Type} : Lit × DataW H → Nat
  | (.string bytes, d) => bytes.length + uptoBulk d + 1
  | (_, d) => uptoBulk d + 1
 end
def uptoSmall : (H : Type) → List (DataW H) → Bool := fun _ ds => decide (uptoBulkAll ds ≤ 1048576)
def OpenSpec.upto (s : _root_.Go.ChangeSpec) : _root_.Go.OpenSpec := { _root_.Go.OpenSpec.ofChange s with cond := some uptoSmall }

/-- 'umbralaw04.AffineMakes', WHERE WHAT IT READS IS OF BULK AT MOST 1048576: true; the input reads as it did. -/
def affineMakesUptoRow : OpenClaim := { program := "ythnphjpjgcmdbaa", sum := "feb3048ed6d9b9509a4518958a8ec38daaeed9ff57a76d617eb2caaebfa69981", func := "umbra/umbralaw04.AffineMakes", spec := "affineMakes", inPlace := ["math/bits.Sub64"], unfollowed := true, recurses := true, apart := false, narrowed := true }
def AffineMakesUptoSaid : Prop := affineMakesUptoRow.holds Try.pinned (OpenSpec.upto affineMakesSpec)

/-- 'umbralaw04.AffineApplies', WHERE WHAT IT READS IS OF BULK AT MOST 1048576: true; the input reads as it did. -/
def affineAppliesUptoRow : OpenClaim := { program := "ythnphjpjgcmdbaa", sum := "feb3048ed6d9b9509a4518958a8ec38daaeed9ff57a76d617eb2caaebfa69981", func := "umbra/umbralaw04.AffineApplies", spec := "affineApplies", inPlace := ["math/bits.Sub64"], unfollowed := true, recurses := true, apart := false, narrowed := true }
def AffineAppliesUptoSaid : Prop := affineAppliesUptoRow.holds Try.pinned (OpenSpec.upto affineAppliesSpec)

/-- 'umbralaw04.AffineThen', WHERE WHAT IT READS IS OF BULK AT MOST 1048576: true; the input reads as it did. -/
def affineThenUptoRow : OpenClaim := { program := "ythnphjpjgcmdbaa", sum := "feb3048ed6d9b9509a4518958a8ec38daaeed9ff57a76d617eb2caaebfa69981", func := "umbra/umbralaw04.AffineThen", spec := "affineThen", inPlace := ["math/bits.Sub64"], unfollowed := true, recurses := true, apart := false, narrowed := true }
def AffineThenUptoSaid : Prop := affineThenUptoRow.holds Try.pinned (OpenSpec.upto affineThenSpec)

/-- 'umbralaw04.AffinePlaces', WHERE WHAT IT READS IS OF BULK AT MOST 1048576: true; the input reads as it did. -/
def affinePlacesUptoRow : OpenClaim := { program := "ythnphjpjgcmdbaa", sum := "feb3048ed6d9b9509a4518958a8ec38daaeed9ff57a76d617eb2caaebfa69981", func := "umbra/umbralaw04.AffinePlaces", spec := "affinePlaces", inPlace := ["math/bits.Sub64"], unfollowed := true, recurses := true, apart := false, narrowed := true }
def AffinePlacesUptoSaid : Prop := affinePlacesUptoRow.holds Try.pinned (OpenSpec.upto affinePlacesSpec)

/-- 'umbralaw04.AffineSame', WHERE WHAT IT READS IS OF BULK AT MOST 1048576: true; the input reads as it did. -/
def affineSameUptoRow : OpenClaim := { program := "ythnphjpjgcmdbaa", sum := "feb3048ed6d9b9509a4518958a8ec38daaeed9ff57a76d617eb2caaebfa69981", func := "umbra/umbralaw04.AffineSame", spec := "affineSame", inPlace := ["math/bits.Sub64"], unfollowed := true, recurses := true, apart := false, narrowed := true }
def AffineSameUptoSaid : Prop := affineSameUptoRow.holds Try.pinned (OpenSpec.upto affineSameSpec)

/-- 'umbralaw04.AffineWhole', WHERE WHAT IT READS IS OF BULK AT MOST 1048576: true; the input reads as it did. -/
def affineWholeUptoRow : OpenClaim := { program := "ythnphjpjgcmdbaa", sum := "feb3048ed6d9b9509a4518958a8ec38daaeed9ff57a76d617eb2caaebfa69981", func := "umbra/umbralaw04.AffineWhole", spec := "affineWhole", inPlace := ["math/bits.Sub64"], unfollowed := true, recurses := true, apart := false, narrowed := true }
def AffineWholeUptoSaid : Prop := affineWholeUptoRow.holds Try.pinned (OpenSpec.upto affineWholeSpec)

/-- 'umbralaw04.AffineGrid', WHERE WHAT IT READS IS OF BULK AT MOST 1048576: true; the input reads as it did. -/
def affineGridUptoRow : OpenClaim := { program := "ythnphjpjgcmdbaa", sum := "feb3048ed6d9b9509a4518958a8ec38daaeed9ff57a76d617eb2caaebfa69981", func := "umbra/umbralaw04.AffineGrid", spec := "affineGrid", inPlace := ["math/bits.Sub64"], unfollowed := true, recurses := true, apart := false, narrowed := true }
def AffineGridUptoSaid : Prop := affineGridUptoRow.holds Try.pinned (OpenSpec.upto affineGridSpec)

end Rows
end Go.Proofs.Ythnphjpjgcmdbaa
