/-
  DERIVED. GIVEN WITH THE SEED: THE CARDS: each row of YtldnjomnleaibaaGreatDoorRows.lean that lists a variable, with what it lists TIED to the program's text (the seventh form; the later family's looks); each row that meets fmt, with fmt's text TOLD by the authors' own Lean function (tested against real Go, not proved from fmt's source: count such statements apart). THE CARD IS WHAT COUNTS. Prove the row's statement (the work); the ties are given (YtldnjomnleaibaaGreatDoorTie.lean); close each card by the builder's one call (the guide's Derived/Test/ToyasCard.lean, 'card_holds'). Laid BY PROGRAM, IN A SANDBOX (cutbox-door.mjs). By AI agents, Wed Nov 11 2026. No macro, syntax, notation, axiom, sorry.
-/
import Derived.Test.YtldnjomnleaibaaGreatDoorRows
import GoSem.ClaimSeven
namespace Go.Proofs.YtldnjomnleaibaaGreatDoor
namespace Rows

/-- THE TIED CARD OF 'umbratop.TopHides'. -/
def topHidesCard : Claim7 := { stood := { row := topHidesRow, standIns := [], harness := (true, "f6f419f9a7e38b49e8d014a85f0b80ef82c34b1b52aae5a96037319baab6c017"), looks := true }, kinds := [], alts := [], laidByText := true, laidKinds := [.data, .data, .data], laidTests := true, laidLooks := .later }
def TopHidesCardSaid : Prop := Claim7.holds Tryz.pinned (.plain (OpenSpec.ofChange topHidesSpec)) topHidesCard

/-- THE TIED CARD OF 'umbratop.TopChains'. -/
def topChainsCard : Claim7 := { stood := { row := topChainsRow, standIns := [], harness := (true, "f6f419f9a7e38b49e8d014a85f0b80ef82c34b1b52aae5a96037319baab6c017"), looks := true }, kinds := [], alts := [], laidByText := true, laidKinds := [.data, .data, .data], laidTests := true, laidLooks := .later }
def TopChainsCardSaid : Prop := Claim7.holds Tryz.pinned (.plain (OpenSpec.ofChange topChainsSpec)) topChainsCard

/-- THE TIED CARD OF 'umbratop.TopOpens'. -/
def topOpensCard : Claim7 := { stood := { row := topOpensRow, standIns := [], harness := (true, "f6f419f9a7e38b49e8d014a85f0b80ef82c34b1b52aae5a96037319baab6c017"), looks := true }, kinds := [], alts := [], laidByText := true, laidKinds := [.data, .data, .data], laidTests := true, laidLooks := .later }
def TopOpensCardSaid : Prop := Claim7.holds Tryz.pinned (.plain (OpenSpec.ofChange topOpensSpec)) topOpensCard

/-- THE TIED CARD OF 'umbratop.TopBounded'. -/
def topBoundedCard : Claim7 := { stood := { row := topBoundedRow, standIns := [], harness := (true, "f6f419f9a7e38b49e8d014a85f0b80ef82c34b1b52aae5a96037319baab6c017"), looks := true }, kinds := [], alts := [], laidByText := true, laidKinds := [.data, .data, .data], laidTests := true, laidLooks := .later }
def TopBoundedCardSaid : Prop := Claim7.holds Tryz.pinned (.plain (OpenSpec.ofChange topBoundedSpec)) topBoundedCard

/-- THE SECOND FORM's CARD OF 'umbratop.TopHides'. -/
def topHidesUptoCard : Claim7 := { stood := { row := topHidesUptoRow, standIns := [], harness := (true, "f6f419f9a7e38b49e8d014a85f0b80ef82c34b1b52aae5a96037319baab6c017"), looks := true }, kinds := [], alts := [], laidByText := true, laidKinds := [.data, .data, .data], laidTests := true, laidLooks := .later }
def TopHidesUptoCardSaid : Prop := Claim7.holds Tryz.pinned (.plain (OpenSpec.upto topHidesSpec)) topHidesUptoCard

/-- THE SECOND FORM's CARD OF 'umbratop.TopChains'. -/
def topChainsUptoCard : Claim7 := { stood := { row := topChainsUptoRow, standIns := [], harness := (true, "f6f419f9a7e38b49e8d014a85f0b80ef82c34b1b52aae5a96037319baab6c017"), looks := true }, kinds := [], alts := [], laidByText := true, laidKinds := [.data, .data, .data], laidTests := true, laidLooks := .later }
def TopChainsUptoCardSaid : Prop := Claim7.holds Tryz.pinned (.plain (OpenSpec.upto topChainsSpec)) topChainsUptoCard

/-- THE SECOND FORM's CARD OF 'umbratop.TopOpens'. -/
def topOpensUptoCard : Claim7 := { stood := { row := topOpensUptoRow, standIns := [], harness := (true, "f6f419f9a7e38b49e8d014a85f0b80ef82c34b1b52aae5a96037319baab6c017"), looks := true }, kinds := [], alts := [], laidByText := true, laidKinds := [.data, .data, .data], laidTests := true, laidLooks := .later }
def TopOpensUptoCardSaid : Prop := Claim7.holds Tryz.pinned (.plain (OpenSpec.upto topOpensSpec)) topOpensUptoCard

/-- THE SECOND FORM's CARD OF 'umbratop.TopBounded'. -/
def topBoundedUptoCard : Claim7 := { stood := { row := topBoundedUptoRow, standIns := [], harness := (true, "f6f419f9a7e38b49e8d014a85f0b80ef82c34b1b52aae5a96037319baab6c017"), looks := true }, kinds := [], alts := [], laidByText := true, laidKinds := [.data, .data, .data], laidTests := true, laidLooks := .later }
def TopBoundedUptoCardSaid : Prop := Claim7.holds Tryz.pinned (.plain (OpenSpec.upto topBoundedSpec)) topBoundedUptoCard
end Rows
end Go.Proofs.YtldnjomnleaibaaGreatDoor
