/-
  DERIVED. GIVEN WITH THE SEED: THE CARDS: each row of YtmfellnmnojmbaaGreatDoorRows.lean that lists a variable, with what it lists TIED to the program's text (the seventh form; the later family's looks); each row that meets fmt, with fmt's text TOLD by the authors' own Lean function (tested against real Go, not proved from fmt's source: count such statements apart). THE CARD IS WHAT COUNTS. Prove the row's statement (the work); the ties are given (YtmfellnmnojmbaaGreatDoorTie.lean); close each card by the builder's one call (the guide's Derived/Test/ToyasCard.lean, 'card_holds'). Laid BY PROGRAM, IN A SANDBOX (cutbox-door.mjs). By AI agents, Wed Nov 11 2026. No macro, syntax, notation, axiom, sorry.
-/
import Derived.Test.YtmfellnmnojmbaaGreatDoorRows
import GoSem.ClaimSeven
namespace Go.Proofs.YtmfellnmnojmbaaGreatDoor
namespace Rows

/-- THE TIED CARD OF 'tallagelaw11.SoundFits'. -/
def soundFitsCard : Claim7 := { stood := { row := soundFitsRow, standIns := [], harness := (true, "5af107f27f4ff2e65c2b7ed72f6a14c9f36955aec43dd9bf64e3a5f783e09408"), looks := false }, kinds := [], alts := [], laidByText := true, laidKinds := [.data, .pinned], laidTests := true, laidLooks := .later }
def SoundFitsCardSaid : Prop := Claim7.holds Tryz.pinned (.plain (OpenSpec.ofChange soundFitsSpec)) soundFitsCard

/-- THE SECOND FORM's CARD OF 'tallagelaw11.SoundFits'. -/
def soundFitsUptoCard : Claim7 := { stood := { row := soundFitsUptoRow, standIns := [], harness := (true, "5af107f27f4ff2e65c2b7ed72f6a14c9f36955aec43dd9bf64e3a5f783e09408"), looks := false }, kinds := [], alts := [], laidByText := true, laidKinds := [.data, .pinned], laidTests := true, laidLooks := .later }
def SoundFitsUptoCardSaid : Prop := Claim7.holds Tryz.pinned (.plain (OpenSpec.upto soundFitsSpec)) soundFitsUptoCard
end Rows
end Go.Proofs.YtmfellnmnojmbaaGreatDoor
