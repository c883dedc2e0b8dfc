/-
  DERIVED. GIVEN WITH THE SEED: THE CARDS: each row of YtniidkdlkijhiaaDoorRows.lean that lists a variable, with what it lists TIED to the program's text (the seventh form; the later family's looks); each row that meets fmt, with fmt's text TOLD by the authors' own Lean function (tested against real Go, not proved from fmt's source: count such statements apart). THE CARD IS WHAT COUNTS. Prove the row's statement (the work); the ties are given (YtniidkdlkijhiaaDoorTie.lean); close each card by the builder's one call (the guide's Derived/Test/ToyasCard.lean, 'card_holds'). Laid BY PROGRAM, IN A SANDBOX (cutbox-door.mjs). By AI agents, Wed Nov 11 2026. No macro, syntax, notation, axiom, sorry.
-/
import Derived.Test.YtniidkdlkijhiaaDoorRows
import GoSem.ClaimSeven
namespace Go.Proofs.YtniidkdlkijhiaaDoor
namespace Rows

/-- THE TIED CARD OF 'umbralaw30.PamEncodes'. -/
def pamEncodesCard : Claim7 := { stood := { row := pamEncodesRow, standIns := [], harness := (true, "782c3c48daca1e8eb7092652bc1c3428622a84a9e108f803bfebe9a87b71d897"), looks := false }, kinds := [], alts := [], laidByText := true, laidKinds := [.data, .data, .data], laidTests := true, laidLooks := .later }
def PamEncodesCardSaid : Prop := Claim7.holds Tryd.pinned (.plain (OpenSpec.ofChange pamEncodesSpec)) pamEncodesCard

/-- THE TIED CARD OF 'umbralaw30.PamImages'. -/
def pamImagesCard : Claim7 := { stood := { row := pamImagesRow, standIns := [], harness := (true, "782c3c48daca1e8eb7092652bc1c3428622a84a9e108f803bfebe9a87b71d897"), looks := false }, kinds := [], alts := [], laidByText := true, laidKinds := [.data, .data, .data], laidTests := true, laidLooks := .later }
def PamImagesCardSaid : Prop := Claim7.holds Tryd.pinned (.plain (OpenSpec.ofChange pamImagesSpec)) pamImagesCard

/-- THE TIED CARD OF 'umbralaw30.PamDecodes'. -/
def pamDecodesCard : Claim7 := { stood := { row := pamDecodesRow, standIns := [], harness := (true, "782c3c48daca1e8eb7092652bc1c3428622a84a9e108f803bfebe9a87b71d897"), looks := false }, kinds := [], alts := [], laidByText := true, laidKinds := [.data, .data, .data], laidTests := true, laidLooks := .later }
def PamDecodesCardSaid : Prop := Claim7.holds Tryd.pinned (.plain (OpenSpec.ofChange pamDecodesSpec)) pamDecodesCard

/-- THE TIED CARD OF 'umbralaw30.PamBack'. -/
def pamBackCard : Claim7 := { stood := { row := pamBackRow, standIns := [], harness := (true, "782c3c48daca1e8eb7092652bc1c3428622a84a9e108f803bfebe9a87b71d897"), looks := false }, kinds := [], alts := [], laidByText := true, laidKinds := [.data, .data, .data], laidTests := true, laidLooks := .later }
def PamBackCardSaid : Prop := Claim7.holds Tryd.pinned (.plain (OpenSpec.ofChange pamBackSpec)) pamBackCard

/-- THE TIED CARD OF 'umbralaw30.PamFiles'. -/
def pamFilesCard : Claim7 := { stood := { row := pamFilesRow, standIns := [], harness := (true, "782c3c48daca1e8eb7092652bc1c3428622a84a9e108f803bfebe9a87b71d897"), looks := false }, kinds := [], alts := [], laidByText := true, laidKinds := [.data, .data, .data], laidTests := true, laidLooks := .later }
def PamFilesCardSaid : Prop := Claim7.holds Tryd.pinned (.plain (OpenSpec.ofChange pamFilesSpec)) pamFilesCard

/-- THE TIED CARD OF 'umbralaw30.PamWhole'. -/
def pamWholeCard : Claim7 := { stood := { row := pamWholeRow, standIns := [], harness := (true, "782c3c48daca1e8eb7092652bc1c3428622a84a9e108f803bfebe9a87b71d897"), looks := false }, kinds := [], alts := [], laidByText := true, laidKinds := [.data, .data, .data], laidTests := true, laidLooks := .later }
def PamWholeCardSaid : Prop := Claim7.holds Tryd.pinned (.plain (OpenSpec.ofChange pamWholeSpec)) pamWholeCard

/-- THE SECOND FORM's CARD OF 'umbralaw30.PamEncodes'. -/
def pamEncodesUptoCard : Claim7 := { stood := { row := pamEncodesUptoRow, standIns := [], harness := (true, "782c3c48daca1e8eb7092652bc1c3428622a84a9e108f803bfebe9a87b71d897"), looks := false }, kinds := [], alts := [], laidByText := true, laidKinds := [.data, .data, .data], laidTests := true, laidLooks := .later }
def PamEncodesUptoCardSaid : Prop := Claim7.holds Tryd.pinned (.plain (OpenSpec.upto pamEncodesSpec)) pamEncodesUptoCard

/-- THE SECOND FORM's CARD OF 'umbralaw30.PamImages'. -/
def pamImagesUptoCard : Claim7 := { stood := { row := pamImagesUptoRow, standIns := [], harness := (true, "782c3c48daca1e8eb7092652bc1c3428622a84a9e108f803bfebe9a87b71d897"), looks := false }, kinds := [], alts := [], laidByText := true, laidKinds := [.data, .data, .data], laidTests := true, laidLooks := .later }
def PamImagesUptoCardSaid : Prop := Claim7.holds Tryd.pinned (.plain (OpenSpec.upto pamImagesSpec)) pamImagesUptoCard

/-- THE SECOND FORM's CARD OF 'umbralaw30.PamDecodes'. -/
def pamDecodesUptoCard : Claim7 := { stood := { row := pamDecodesUptoRow, standIns := [], harness := (true, "782c3c48daca1e8eb7092652bc1c3428622a84a9e108f803bfebe9a87b71d897"), looks := false }, kinds := [], alts := [], laidByText := true, laidKinds := [.data, .data, .data], laidTests := true, laidLooks := .later }
def PamDecodesUptoCardSaid : Prop := Claim7.holds Tryd.pinned (.plain (OpenSpec.upto pamDecodesSpec)) pamDecodesUptoCard

/-- THE SECOND FORM's CARD OF 'umbralaw30.PamBack'. -/
def pamBackUptoCard : Claim7 := { stood := { row := pamBackUptoRow, standIns := [], harness := (true, "782c3c48daca1e8eb7092652bc1c3428622a84a9e108f803bfebe9a87b71d897"), looks := false }, kinds := [], alts := [], laidByText := true, laidKinds := [.data, .data, .data], laidTests := true, laidLooks := .later }
def PamBackUptoCardSaid : Prop := Claim7.holds Tryd.pinned (.plain (OpenSpec.upto pamBackSpec)) pamBackUptoCard

/-- THE SECOND FORM's CARD OF 'umbralaw30.PamFiles'. -/
def pamFilesUptoCard : Claim7 := { stood := { row := pamFilesUptoRow, standIns := [], harness := (true, "782c3c48daca1e8eb7092652bc1c3428622a84a9e108f803bfebe9a87b71d897"), looks := false }, kinds := [], alts := [], laidByText := true, laidKinds := [.data, .data, .data], laidTests := true, laidLooks := .later }
def PamFilesUptoCardSaid : Prop := Claim7.holds Tryd.pinned (.plain (OpenSpec.upto pamFilesSpec)) pamFilesUptoCard

/-- THE SECOND FORM's CARD OF 'umbralaw30.PamWhole'. -/
def pamWholeUptoCard : Claim7 := { stood := { row := pamWholeUptoRow, standIns := [], harness := (true, "782c3c48daca1e8eb7092652bc1c3428622a84a9e108f803bfebe9a87b71d897"), looks := false }, kinds := [], alts := [], laidByText := true, laidKinds := [.data, .data, .data], laidTests := true, laidLooks := .later }
def PamWholeUptoCardSaid : Prop := Claim7.holds Tryd.pinned (.plain (OpenSpec.upto pamWholeSpec)) pamWholeUptoCard
end Rows
end Go.Proofs.YtniidkdlkijhiaaDoor
