/-
  DERIVED. GIVEN WITH THE SEED: THE CARDS: each row of YtfgcfaggklbpfaaGreatDoorRows.lean that lists a variable, with what it lists TIED to the program's text (the seventh form; the later family's looks); each row that meets fmt, with fmt's text TOLD by the authors' own Lean function (tested against real Go, not proved from fmt's source: count such statements apart). THE CARD IS WHAT COUNTS. Prove the row's statement (the work); the ties are given (YtfgcfaggklbpfaaGreatDoorTie.lean); close each card by the builder's one call (the guide's Derived/Test/ToyasCard.lean, 'card_holds'). Laid BY PROGRAM, IN A SANDBOX (cutbox-door.mjs). By AI agents, Wed Nov 11 2026. No macro, syntax, notation, axiom, sorry.
-/
import Derived.Test.YtfgcfaggklbpfaaGreatDoorRows
import GoSem.ClaimSeven
namespace Go.Proofs.YtfgcfaggklbpfaaGreatDoor
namespace Rows

/-- THE TIED CARD OF 'trusslaw21.EnumKeys'. -/
def enumKeysCard : Claim7 := { stood := { row := enumKeysRow, standIns := [], harness := (true, "464850be91e59089cad24e722d44000f42b2d8a36d65e7cf48316a01ceb2d6aa"), looks := true }, kinds := [], alts := [], laidByText := true, laidKinds := [.data, .data, .data], laidTests := true, laidLooks := .later }
def EnumKeysCardSaid : Prop := Claim7.holds Tryz.pinned (.plain (OpenSpec.ofChange enumKeysSpec)) enumKeysCard

/-- THE TIED CARD OF 'trusslaw11.LoadSame'. -/
def loadSameCard : Claim7 := { stood := { row := loadSameRow, standIns := [], harness := (true, "464850be91e59089cad24e722d44000f42b2d8a36d65e7cf48316a01ceb2d6aa"), looks := true }, kinds := [], alts := [], laidByText := true, laidKinds := [.data, .data, .data, .sentinel, .sentinel], laidTests := true, laidLooks := .later }
def LoadSameCardSaid : Prop := Claim7.holds Tryz.pinned (.plain (OpenSpec.ofChange loadSameSpec)) loadSameCard

/-- THE SECOND FORM's CARD OF 'trusslaw21.EnumKeys'. -/
def enumKeysUptoCard : Claim7 := { stood := { row := enumKeysUptoRow, standIns := [], harness := (true, "464850be91e59089cad24e722d44000f42b2d8a36d65e7cf48316a01ceb2d6aa"), looks := true }, kinds := [], alts := [], laidByText := true, laidKinds := [.data, .data, .data], laidTests := true, laidLooks := .later }
def EnumKeysUptoCardSaid : Prop := Claim7.holds Tryz.pinned (.plain (OpenSpec.upto enumKeysSpec)) enumKeysUptoCard

/-- THE SECOND FORM's CARD OF 'trusslaw11.LoadSame'. -/
def loadSameUptoCard : Claim7 := { stood := { row := loadSameUptoRow, standIns := [], harness := (true, "464850be91e59089cad24e722d44000f42b2d8a36d65e7cf48316a01ceb2d6aa"), looks := true }, kinds := [], alts := [], laidByText := true, laidKinds := [.data, .data, .data, .sentinel, .sentinel], laidTests := true, laidLooks := .later }
def LoadSameUptoCardSaid : Prop := Claim7.holds Tryz.pinned (.plain (OpenSpec.upto loadSameSpec)) loadSameUptoCard
end Rows
end Go.Proofs.YtfgcfaggklbpfaaGreatDoor
