/-
  DERIVED. GIVEN WITH THE SEED: THE CARDS: each row of YthiklmgdmaemgaaDoorRows.lean that lists a variable, with what it lists TIED to the program's text (the seventh form; the later family's looks); each row that meets fmt, with fmt's text TOLD by the authors' own Lean function (tested against real Go, not proved from fmt's source: count such statements apart). THE CARD IS WHAT COUNTS. Prove the row's statement (the work); the ties are given (YthiklmgdmaemgaaDoorTie.lean); close each card by the builder's one call (the guide's Derived/Test/ToyasCard.lean, 'card_holds'). Laid BY PROGRAM, IN A SANDBOX (cutbox-door.mjs). By AI agents, Wed Nov 11 2026. No macro, syntax, notation, axiom, sorry.
-/
import Derived.Test.YthiklmgdmaemgaaDoorRows
import GoSem.ClaimSeven
namespace Go.Proofs.YthiklmgdmaemgaaDoor
namespace Rows

/-- THE TIED CARD OF 'cutplanelaw03.WordNext'. -/
def wordNextCard : Claim7 := { stood := { row := wordNextRow, standIns := [], harness := (true, "d8d98cec911981a2f4da70b40ba0b79f0f5408e51e7b9e08d0f400617edf82fe"), looks := false }, kinds := [], alts := [], laidByText := true, laidKinds := [.data], laidTests := true, laidLooks := .later }
def WordNextCardSaid : Prop := Claim7.holds Tryd.pinned (.plain (OpenSpec.ofChange wordNextSpec)) wordNextCard

/-- THE TIED CARD OF 'cutplanelaw03.WordValues'. -/
def wordValuesCard : Claim7 := { stood := { row := wordValuesRow, standIns := [], harness := (true, "d8d98cec911981a2f4da70b40ba0b79f0f5408e51e7b9e08d0f400617edf82fe"), looks := false }, kinds := [], alts := [], laidByText := true, laidKinds := [.data], laidTests := true, laidLooks := .later }
def WordValuesCardSaid : Prop := Claim7.holds Tryd.pinned (.plain (OpenSpec.ofChange wordValuesSpec)) wordValuesCard

/-- THE TIED CARD OF 'cutplanelaw03.WordBack'. -/
def wordBackCard : Claim7 := { stood := { row := wordBackRow, standIns := [], harness := (true, "d8d98cec911981a2f4da70b40ba0b79f0f5408e51e7b9e08d0f400617edf82fe"), looks := false }, kinds := [], alts := [], laidByText := true, laidKinds := [.data], laidTests := true, laidLooks := .later }
def WordBackCardSaid : Prop := Claim7.holds Tryd.pinned (.plain (OpenSpec.ofChange wordBackSpec)) wordBackCard

/-- THE SECOND FORM's CARD OF 'cutplanelaw03.WordNext'. -/
def wordNextUptoCard : Claim7 := { stood := { row := wordNextUptoRow, standIns := [], harness := (true, "d8d98cec911981a2f4da70b40ba0b79f0f5408e51e7b9e08d0f400617edf82fe"), looks := false }, kinds := [], alts := [], laidByText := true, laidKinds := [.data], laidTests := true, laidLooks := .later }
def WordNextUptoCardSaid : Prop := Claim7.holds Tryd.pinned (.plain (OpenSpec.upto wordNextSpec)) wordNextUptoCard

/-- THE SECOND FORM's CARD OF 'cutplanelaw03.WordValues'. -/
def wordValuesUptoCard : Claim7 := { stood := { row := wordValuesUptoRow, standIns := [], harness := (true, "d8d98cec911981a2f4da70b40ba0b79f0f5408e51e7b9e08d0f400617edf82fe"), looks := false }, kinds := [], alts := [], laidByText := true, laidKinds := [.data], laidTests := true, laidLooks := .later }
def WordValuesUptoCardSaid : Prop := Claim7.holds Tryd.pinned (.plain (OpenSpec.upto wordValuesSpec)) wordValuesUptoCard

/-- THE SECOND FORM's CARD OF 'cutplanelaw03.WordBack'. -/
def wordBackUptoCard : Claim7 := { stood := { row := wordBackUptoRow, standIns := [], harness := (true, "d8d98cec911981a2f4da70b40ba0b79f0f5408e51e7b9e08d0f400617edf82fe"), looks := false }, kinds := [], alts := [], laidByText := true, laidKinds := [.data], laidTests := true, laidLooks := .later }
def WordBackUptoCardSaid : Prop := Claim7.holds Tryd.pinned (.plain (OpenSpec.upto wordBackSpec)) wordBackUptoCard
end Rows
end Go.Proofs.YthiklmgdmaemgaaDoor
