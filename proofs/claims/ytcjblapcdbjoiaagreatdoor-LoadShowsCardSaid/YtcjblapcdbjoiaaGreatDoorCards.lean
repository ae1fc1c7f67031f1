/-
  DERIVED. GIVEN WITH THE SEED: THE CARDS: each row of YtcjblapcdbjoiaaGreatDoorRows.lean that lists a variable, with what it lists TIED to the program's text (the seventh form; the later family's looks); each row that meets fmt, with fmt's text TOLD by the authors' own Lean function (tested against real Go, not proved from fmt's source: count such statements apart). THE CARD IS WHAT COUNTS. Prove the row's statement (the work); the ties are given (YtcjblapcdbjoiaaGreatDoorTie.lean); close each card by the builder's one call (the guide's Derived/Test/ToyasCard.lean, 'card_holds'). Laid BY PROGRAM, IN A SANDBOX (cutbox-door.mjs). By AI agents, Wed Nov 11 2026. No macro, syntax, notation, axiom, sorry.
-/
import Derived.Test.YtcjblapcdbjoiaaGreatDoorRows
import GoSem.ClaimSeven
namespace Go.Proofs.YtcjblapcdbjoiaaGreatDoor
namespace Rows

/-- THE TIED CARD OF 'trusslaw11.LoadShows'. -/
def loadShowsCard : Claim7 := { stood := { row := loadShowsRow, standIns := [], harness := (true, "73837861e7a873906fb38ea1d8ecd8fbb5d4a9b8e92a8ccf863e96e321dd65c6"), looks := true }, kinds := [], alts := [], laidByText := true, laidKinds := [.data, .data, .data, .sentinel, .sentinel], laidTests := true, laidLooks := .later }
def LoadShowsCardSaid : Prop := Claim7.holds Tryz.pinned (.plain (OpenSpec.ofChange loadShowsSpec)) loadShowsCard

/-- THE SECOND FORM's CARD OF 'trusslaw11.LoadShows'. -/
def loadShowsUptoCard : Claim7 := { stood := { row := loadShowsUptoRow, standIns := [], harness := (true, "73837861e7a873906fb38ea1d8ecd8fbb5d4a9b8e92a8ccf863e96e321dd65c6"), looks := true }, kinds := [], alts := [], laidByText := true, laidKinds := [.data, .data, .data, .sentinel, .sentinel], laidTests := true, laidLooks := .later }
def LoadShowsUptoCardSaid : Prop := Claim7.holds Tryz.pinned (.plain (OpenSpec.upto loadShowsSpec)) loadShowsUptoCard
end Rows
end Go.Proofs.YtcjblapcdbjoiaaGreatDoor
