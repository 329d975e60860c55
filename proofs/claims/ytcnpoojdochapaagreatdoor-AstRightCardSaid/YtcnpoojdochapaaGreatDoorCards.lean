/-
  DERIVED. GIVEN WITH THE SEED: THE CARDS: each row of YtcnpoojdochapaaGreatDoorRows.lean that lists a variable, with what it lists TIED to the program's text (the seventh form; the later family's looks); each row that meets fmt, with fmt's text TOLD by the authors' own Lean function (tested against real Go, not proved from fmt's source: count such statements apart). THE CARD IS WHAT COUNTS. Prove the row's statement (the work); the ties are given (YtcnpoojdochapaaGreatDoorTie.lean); close each card by the builder's one call (the guide's Derived/Test/ToyasCard.lean, 'card_holds'). Laid BY PROGRAM, IN A SANDBOX (cutbox-door.mjs). By AI agents, Wed Nov 11 2026. No macro, syntax, notation, axiom, sorry.
-/
import Derived.Test.YtcnpoojdochapaaGreatDoorRows
import GoSem.ClaimSeven
namespace Go.Proofs.YtcnpoojdochapaaGreatDoor
namespace Rows

/-- THE TIED CARD OF 'tallagelaw08.AstWords'. -/
def astWordsCard : Claim7 := { stood := { row := astWordsRow, standIns := [], harness := (true, "90f7f55fa025b10db8949481f82890fd7b74385e57c2877b1679c25b2b49fd9f"), looks := false }, kinds := [], alts := [], laidByText := true, laidKinds := [.data, .pinned], laidTests := true, laidLooks := .later }
def AstWordsCardSaid : Prop := Claim7.holds Tryz.pinned (.plain (OpenSpec.ofChange astWordsSpec)) astWordsCard

/-- THE TIED CARD OF 'tallagelaw08.AstRight'. -/
def astRightCard : Claim7 := { stood := { row := astRightRow, standIns := [], harness := (true, "90f7f55fa025b10db8949481f82890fd7b74385e57c2877b1679c25b2b49fd9f"), looks := false }, kinds := [], alts := [], laidByText := true, laidKinds := [.data, .pinned], laidTests := true, laidLooks := .later }
def AstRightCardSaid : Prop := Claim7.holds Tryz.pinned (.plain (OpenSpec.ofChange astRightSpec)) astRightCard

/-- THE TIED CARD OF 'tallagelaw08.AstLess'. -/
def astLessCard : Claim7 := { stood := { row := astLessRow, standIns := [], harness := (true, "90f7f55fa025b10db8949481f82890fd7b74385e57c2877b1679c25b2b49fd9f"), looks := false }, kinds := [], alts := [], laidByText := true, laidKinds := [.data, .pinned], laidTests := true, laidLooks := .later }
def AstLessCardSaid : Prop := Claim7.holds Tryz.pinned (.plain (OpenSpec.ofChange astLessSpec)) astLessCard

/-- THE TIED CARD OF 'tallagelaw08.AstKnown'. -/
def astKnownCard : Claim7 := { stood := { row := astKnownRow, standIns := [], harness := (true, "90f7f55fa025b10db8949481f82890fd7b74385e57c2877b1679c25b2b49fd9f"), looks := false }, kinds := [], alts := [], laidByText := true, laidKinds := [.data, .pinned], laidTests := true, laidLooks := .later }
def AstKnownCardSaid : Prop := Claim7.holds Tryz.pinned (.plain (OpenSpec.ofChange astKnownSpec)) astKnownCard

/-- THE SECOND FORM's CARD OF 'tallagelaw08.AstWords'. -/
def astWordsUptoCard : Claim7 := { stood := { row := astWordsUptoRow, standIns := [], harness := (true, "90f7f55fa025b10db8949481f82890fd7b74385e57c2877b1679c25b2b49fd9f"), looks := false }, kinds := [], alts := [], laidByText := true, laidKinds := [.data, .pinned], laidTests := true, laidLooks := .later }
def AstWordsUptoCardSaid : Prop := Claim7.holds Tryz.pinned (.plain (OpenSpec.upto astWordsSpec)) astWordsUptoCard

/-- THE SECOND FORM's CARD OF 'tallagelaw08.AstRight'. -/
def astRightUptoCard : Claim7 := { stood := { row := astRightUptoRow, standIns := [], harness := (true, "90f7f55fa025b10db8949481f82890fd7b74385e57c2877b1679c25b2b49fd9f"), looks := false }, kinds := [], alts := [], laidByText := true, laidKinds := [.data, .pinned], laidTests := true, laidLooks := .later }
def AstRightUptoCardSaid : Prop := Claim7.holds Tryz.pinned (.plain (OpenSpec.upto astRightSpec)) astRightUptoCard

/-- THE SECOND FORM's CARD OF 'tallagelaw08.AstLess'. -/
def astLessUptoCard : Claim7 := { stood := { row := astLessUptoRow, standIns := [], harness := (true, "90f7f55fa025b10db8949481f82890fd7b74385e57c2877b1679c25b2b49fd9f"), looks := false }, kinds := [], alts := [], laidByText := true, laidKinds := [.data, .pinned], laidTests := true, laidLooks := .later }
def AstLessUptoCardSaid : Prop := Claim7.holds Tryz.pinned (.plain (OpenSpec.upto astLessSpec)) astLessUptoCard

/-- THE SECOND FORM's CARD OF 'tallagelaw08.AstKnown'. -/
def astKnownUptoCard : Claim7 := { stood := { row := astKnownUptoRow, standIns := [], harness := (true, "90f7f55fa025b10db8949481f82890fd7b74385e57c2877b1679c25b2b49fd9f"), looks := false }, kinds := [], alts := [], laidByText := true, laidKinds := [.data, .pinned], laidTests := true, laidLooks := .later }
def AstKnownUptoCardSaid : Prop := Claim7.holds Tryz.pinned (.plain (OpenSpec.upto astKnownSpec)) astKnownUptoCard
end Rows
end Go.Proofs.YtcnpoojdochapaaGreatDoor
