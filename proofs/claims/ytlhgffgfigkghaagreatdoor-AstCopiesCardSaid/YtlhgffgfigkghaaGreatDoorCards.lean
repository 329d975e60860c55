/-
  DERIVED. GIVEN WITH THE SEED: THE CARDS: each row of YtlhgffgfigkghaaGreatDoorRows.lean that lists a variable, with what it lists TIED to the program's text (the seventh form; the later family's looks); each row that meets fmt, with fmt's text TOLD by the authors' own Lean function (tested against real Go, not proved from fmt's source: count such statements apart). THE CARD IS WHAT COUNTS. Prove the row's statement (the work); the ties are given (YtlhgffgfigkghaaGreatDoorTie.lean); close each card by the builder's one call (the guide's Derived/Test/ToyasCard.lean, 'card_holds'). Laid BY PROGRAM, IN A SANDBOX (cutbox-door.mjs). By AI agents, Wed Nov 11 2026. No macro, syntax, notation, axiom, sorry.
-/
import Derived.Test.YtlhgffgfigkghaaGreatDoorRows
import GoSem.ClaimSeven
namespace Go.Proofs.YtlhgffgfigkghaaGreatDoor
namespace Rows

/-- THE TIED CARD OF 'tallagelaw08.AstCopies'. -/
def astCopiesCard : Claim7 := { stood := { row := astCopiesRow, standIns := [], harness := (true, "c89b1189cd247e381f49af8da56a413cc1260cea4ffc8fa11d4c1da54de8bfa1"), looks := false }, kinds := [], alts := [], laidByText := true, laidKinds := [.data, .pinned], laidTests := true, laidLooks := .later }
def AstCopiesCardSaid : Prop := Claim7.holds Tryz.pinned (.plain (OpenSpec.ofChange astCopiesSpec)) astCopiesCard

/-- THE TIED CARD OF 'tallagelaw08.AstSame'. -/
def astSameCard : Claim7 := { stood := { row := astSameRow, standIns := [], harness := (true, "c89b1189cd247e381f49af8da56a413cc1260cea4ffc8fa11d4c1da54de8bfa1"), looks := false }, kinds := [], alts := [], laidByText := true, laidKinds := [.data, .pinned], laidTests := true, laidLooks := .later }
def AstSameCardSaid : Prop := Claim7.holds Tryz.pinned (.plain (OpenSpec.ofChange astSameSpec)) astSameCard

/-- THE TIED CARD OF 'tallagelaw11.SoundFits'. -/
def soundFitsCard : Claim7 := { stood := { row := soundFitsRow, standIns := [], harness := (true, "c89b1189cd247e381f49af8da56a413cc1260cea4ffc8fa11d4c1da54de8bfa1"), looks := false }, kinds := [], alts := [], laidByText := true, laidKinds := [.data, .pinned], laidTests := true, laidLooks := .later }
def SoundFitsCardSaid : Prop := Claim7.holds Tryz.pinned (.plain (OpenSpec.ofChange soundFitsSpec)) soundFitsCard

/-- THE SECOND FORM's CARD OF 'tallagelaw08.AstCopies'. -/
def astCopiesUptoCard : Claim7 := { stood := { row := astCopiesUptoRow, standIns := [], harness := (true, "c89b1189cd247e381f49af8da56a413cc1260cea4ffc8fa11d4c1da54de8bfa1"), looks := false }, kinds := [], alts := [], laidByText := true, laidKinds := [.data, .pinned], laidTests := true, laidLooks := .later }
def AstCopiesUptoCardSaid : Prop := Claim7.holds Tryz.pinned (.plain (OpenSpec.upto astCopiesSpec)) astCopiesUptoCard

/-- THE SECOND FORM's CARD OF 'tallagelaw08.AstSame'. -/
def astSameUptoCard : Claim7 := { stood := { row := astSameUptoRow, standIns := [], harness := (true, "c89b1189cd247e381f49af8da56a413cc1260cea4ffc8fa11d4c1da54de8bfa1"), looks := false }, kinds := [], alts := [], laidByText := true, laidKinds := [.data, .pinned], laidTests := true, laidLooks := .later }
def AstSameUptoCardSaid : Prop := Claim7.holds Tryz.pinned (.plain (OpenSpec.upto astSameSpec)) astSameUptoCard

/-- THE SECOND FORM's CARD OF 'tallagelaw11.SoundFits'. -/
def soundFitsUptoCard : Claim7 := { stood := { row := soundFitsUptoRow, standIns := [], harness := (true, "c89b1189cd247e381f49af8da56a413cc1260cea4ffc8fa11d4c1da54de8bfa1"), looks := false }, kinds := [], alts := [], laidByText := true, laidKinds := [.data, .pinned], laidTests := true, laidLooks := .later }
def SoundFitsUptoCardSaid : Prop := Claim7.holds Tryz.pinned (.plain (OpenSpec.upto soundFitsSpec)) soundFitsUptoCard
end Rows
end Go.Proofs.YtlhgffgfigkghaaGreatDoor
