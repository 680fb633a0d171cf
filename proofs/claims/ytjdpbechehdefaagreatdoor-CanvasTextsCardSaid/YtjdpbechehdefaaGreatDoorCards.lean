/-
  DERIVED. GIVEN WITH THE SEED: THE CARDS: each row of YtjdpbechehdefaaGreatDoorRows.lean that lists a variable, with what it lists TIED to the program's text (the seventh form; the later family's looks); each row that meets fmt, with fmt's text TOLD by the authors' own Lean function (tested against real Go, not proved from fmt's source: count such statements apart). THE CARD IS WHAT COUNTS. Prove the row's statement (the work); the ties are given (YtjdpbechehdefaaGreatDoorTie.lean); close each card by the builder's one call (the guide's Derived/Test/ToyasCard.lean, 'card_holds'). Laid BY PROGRAM, IN A SANDBOX (cutbox-door.mjs). By AI agents, Wed Nov 11 2026. No macro, syntax, notation, axiom, sorry.
-/
import Derived.Test.YtjdpbechehdefaaGreatDoorRows
import GoSem.ClaimSeven
namespace Go.Proofs.YtjdpbechehdefaaGreatDoor
namespace Rows

/-- THE TIED CARD OF 'velariumlaw02.CanvasTexts'. -/
def canvasTextsCard : Claim7 := { stood := { row := canvasTextsRow, standIns := [], harness := (true, "6f5fab8f146c3b006fcff913dd8a76894c1ddc88f30dac22ecc6b1ceefdab24b"), looks := true }, kinds := [], alts := [], goes := true, laidByText := true, laidKinds := [.data, .data, .data, .data, .sentinel, .sentinel, .funcs, .widerDeep, .data, .pinned], laidTests := true, laidLooks := .later }
def CanvasTextsCardSaid : Prop := Claim7.holds Tryz.pinned (.plain (OpenSpec.ofChange canvasTextsSpec)) canvasTextsCard

/-- THE TIED CARD OF 'velariumlaw02.CanvasBack'. -/
def canvasBackCard : Claim7 := { stood := { row := canvasBackRow, standIns := [], harness := (true, "6f5fab8f146c3b006fcff913dd8a76894c1ddc88f30dac22ecc6b1ceefdab24b"), looks := true }, kinds := [], alts := [], goes := true, laidByText := true, laidKinds := [.data, .data, .data, .data, .sentinel, .sentinel, .funcs, .widerDeep, .data, .pinned], laidTests := true, laidLooks := .later }
def CanvasBackCardSaid : Prop := Claim7.holds Tryz.pinned (.plain (OpenSpec.ofChange canvasBackSpec)) canvasBackCard

/-- THE SECOND FORM's CARD OF 'velariumlaw02.CanvasTexts'. -/
def canvasTextsUptoCard : Claim7 := { stood := { row := canvasTextsUptoRow, standIns := [], harness := (true, "6f5fab8f146c3b006fcff913dd8a76894c1ddc88f30dac22ecc6b1ceefdab24b"), looks := true }, kinds := [], alts := [], goes := true, laidByText := true, laidKinds := [.data, .data, .data, .data, .sentinel, .sentinel, .funcs, .widerDeep, .data, .pinned], laidTests := true, laidLooks := .later }
def CanvasTextsUptoCardSaid : Prop := Claim7.holds Tryz.pinned (.plain (OpenSpec.upto canvasTextsSpec)) canvasTextsUptoCard

/-- THE SECOND FORM's CARD OF 'velariumlaw02.CanvasBack'. -/
def canvasBackUptoCard : Claim7 := { stood := { row := canvasBackUptoRow, standIns := [], harness := (true, "6f5fab8f146c3b006fcff913dd8a76894c1ddc88f30dac22ecc6b1ceefdab24b"), looks := true }, kinds := [], alts := [], goes := true, laidByText := true, laidKinds := [.data, .data, .data, .data, .sentinel, .sentinel, .funcs, .widerDeep, .data, .pinned], laidTests := true, laidLooks := .later }
def CanvasBackUptoCardSaid : Prop := Claim7.holds Tryz.pinned (.plain (OpenSpec.upto canvasBackSpec)) canvasBackUptoCard
end Rows
end Go.Proofs.YtjdpbechehdefaaGreatDoor
