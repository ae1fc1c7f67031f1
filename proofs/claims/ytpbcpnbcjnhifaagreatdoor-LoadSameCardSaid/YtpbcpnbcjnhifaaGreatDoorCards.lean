/-
  DERIVED. GIVEN WITH THE SEED: THE CARDS: each row of YtpbcpnbcjnhifaaGreatDoorRows.lean that lists a variable, with what it lists TIED to the program's text (the seventh form; the later family's looks); each row that meets fmt, with fmt's text TOLD by the authors' own Lean function (tested against real Go, not proved from fmt's source: count such statements apart). THE CARD IS WHAT COUNTS. Prove the row's statement (the work); the ties are given (YtpbcpnbcjnhifaaGreatDoorTie.lean); close each card by the builder's one call (the guide's Derived/Test/ToyasCard.lean, 'card_holds'). Laid BY PROGRAM, IN A SANDBOX (cutbox-door.mjs). By AI agents, Wed Nov 11 2026. No macro, syntax, notation, axiom, sorry.
-/
import Derived.Test.YtpbcpnbcjnhifaaGreatDoorRows
import GoSem.ClaimSeven
namespace Go.Proofs.YtpbcpnbcjnhifaaGreatDoor
namespace Rows

/-- THE TIED CARD OF 'trusslaw17.SplitCompacts'. -/
def splitCompactsCard : Claim7 := { stood := { row := splitCompactsRow, standIns := [], harness := (true, "e1637b2a386ae31f2c204f065a7a2c93d23d5507b81b874fa2bbd59a532e1466"), looks := true }, kinds := [], alts := [], laidByText := true, laidKinds := [.data, .data, .data], laidTests := true, laidLooks := .later }
def SplitCompactsCardSaid : Prop := Claim7.holds Tryz.pinned (.plain (OpenSpec.ofChange splitCompactsSpec)) splitCompactsCard

/-- THE TIED CARD OF 'trusslaw11.LoadShows'. -/
def loadShowsCard : Claim7 := { stood := { row := loadShowsRow, standIns := [], harness := (true, "e1637b2a386ae31f2c204f065a7a2c93d23d5507b81b874fa2bbd59a532e1466"), looks := true }, kinds := [], alts := [], laidByText := true, laidKinds := [.data, .data, .data, .sentinel, .sentinel], laidTests := true, laidLooks := .later }
def LoadShowsCardSaid : Prop := Claim7.holds Tryz.pinned (.plain (OpenSpec.ofChange loadShowsSpec)) loadShowsCard

/-- THE TIED CARD OF 'trusslaw11.LoadSame'. -/
def loadSameCard : Claim7 := { stood := { row := loadSameRow, standIns := [], harness := (true, "e1637b2a386ae31f2c204f065a7a2c93d23d5507b81b874fa2bbd59a532e1466"), looks := true }, kinds := [], alts := [], laidByText := true, laidKinds := [.data, .data, .data, .sentinel, .sentinel], laidTests := true, laidLooks := .later }
def LoadSameCardSaid : Prop := Claim7.holds Tryz.pinned (.plain (OpenSpec.ofChange loadSameSpec)) loadSameCard

/-- THE SECOND FORM's CARD OF 'trusslaw17.SplitCompacts'. -/
def splitCompactsUptoCard : Claim7 := { stood := { row := splitCompactsUptoRow, standIns := [], harness := (true, "e1637b2a386ae31f2c204f065a7a2c93d23d5507b81b874fa2bbd59a532e1466"), looks := true }, kinds := [], alts := [], laidByText := true, laidKinds := [.data, .data, .data], laidTests := true, laidLooks := .later }
def SplitCompactsUptoCardSaid : Prop := Claim7.holds Tryz.pinned (.plain (OpenSpec.upto splitCompactsSpec)) splitCompactsUptoCard

/-- THE SECOND FORM's CARD OF 'trusslaw11.LoadShows'. -/
def loadShowsUptoCard : Claim7 := { stood := { row := loadShowsUptoRow, standIns := [], harness := (true, "e1637b2a386ae31f2c204f065a7a2c93d23d5507b81b874fa2bbd59a532e1466"), looks := true }, kinds := [], alts := [], laidByText := true, laidKinds := [.data, .data, .data, .sentinel, .sentinel], laidTests := true, laidLooks := .later }
def LoadShowsUptoCardSaid : Prop := Claim7.holds Tryz.pinned (.plain (OpenSpec.upto loadShowsSpec)) loadShowsUptoCard

/-- THE SECOND FORM's CARD OF 'trusslaw11.LoadSame'. -/
def loadSameUptoCard : Claim7 := { stood := { row := loadSameUptoRow, standIns := [], harness := (true, "e1637b2a386ae31f2c204f065a7a2c93d23d5507b81b874fa2bbd59a532e1466"), looks := true }, kinds := [], alts := [], laidByText := true, laidKinds := [.data, .data, .data, .sentinel, .sentinel], laidTests := true, laidLooks := .later }
def LoadSameUptoCardSaid : Prop := Claim7.holds Tryz.pinned (.plain (OpenSpec.upto loadSameSpec)) loadSameUptoCard
end Rows
end Go.Proofs.YtpbcpnbcjnhifaaGreatDoor
