/-
  DERIVED. GIVEN WITH THE SEED: THE CARDS: each row of YtokdmiiejfmomaaGreatDoorRows.lean that lists a variable, with what it lists TIED to the program's text (the seventh form; the later family's looks); each row that meets fmt, with fmt's text TOLD by the authors' own Lean function (tested against real Go, not proved from fmt's source: count such statements apart). THE CARD IS WHAT COUNTS. Prove the row's statement (the work); the ties are given (YtokdmiiejfmomaaGreatDoorTie.lean); close each card by the builder's one call (the guide's Derived/Test/ToyasCard.lean, 'card_holds'). Laid BY PROGRAM, IN A SANDBOX (cutbox-door.mjs). By AI agents, Wed Nov 11 2026. No macro, syntax, notation, axiom, sorry.
-/
import Derived.Test.YtokdmiiejfmomaaGreatDoorRows
import GoSem.ClaimSeven
namespace Go.Proofs.YtokdmiiejfmomaaGreatDoor
namespace Rows

/-- THE TIED CARD OF 'velariumlaw02.CanvasLines'. -/
def canvasLinesCard : Claim7 := { stood := { row := canvasLinesRow, standIns := [], harness := (true, "2aeeda9e0b315eb022070bc88bc80a554dcd329f773ad53586088327a2b29430"), looks := false }, kinds := [], alts := [], goes := true, laidByText := true, laidKinds := [.funcs], laidTests := true, laidLooks := .later }
def CanvasLinesCardSaid : Prop := Claim7.holds Tryz.pinned (.plain (OpenSpec.ofChange canvasLinesSpec)) canvasLinesCard

/-- THE TIED CARD OF 'velariumlaw02.CanvasThings'. -/
def canvasThingsCard : Claim7 := { stood := { row := canvasThingsRow, standIns := [], harness := (true, "2aeeda9e0b315eb022070bc88bc80a554dcd329f773ad53586088327a2b29430"), looks := false }, kinds := [], alts := [], goes := true, laidByText := true, laidKinds := [.funcs], laidTests := true, laidLooks := .later }
def CanvasThingsCardSaid : Prop := Claim7.holds Tryz.pinned (.plain (OpenSpec.ofChange canvasThingsSpec)) canvasThingsCard

/-- THE TIED CARD OF 'velariumlaw02.CanvasExact'. -/
def canvasExactCard : Claim7 := { stood := { row := canvasExactRow, standIns := [], harness := (true, "2aeeda9e0b315eb022070bc88bc80a554dcd329f773ad53586088327a2b29430"), looks := false }, kinds := [], alts := [], goes := true, laidByText := true, laidKinds := [.funcs], laidTests := true, laidLooks := .later }
def CanvasExactCardSaid : Prop := Claim7.holds Tryz.pinned (.plain (OpenSpec.ofChange canvasExactSpec)) canvasExactCard

/-- THE TIED CARD OF 'velariumlaw02.CanvasNearest'. -/
def canvasNearestCard : Claim7 := { stood := { row := canvasNearestRow, standIns := [], harness := (true, "2aeeda9e0b315eb022070bc88bc80a554dcd329f773ad53586088327a2b29430"), looks := false }, kinds := [], alts := [], goes := true, laidByText := true, laidKinds := [.funcs], laidTests := true, laidLooks := .later }
def CanvasNearestCardSaid : Prop := Claim7.holds Tryz.pinned (.plain (OpenSpec.ofChange canvasNearestSpec)) canvasNearestCard

/-- THE TIED CARD OF 'velariumlaw02.CanvasParted'. -/
def canvasPartedCard : Claim7 := { stood := { row := canvasPartedRow, standIns := [], harness := (true, "2aeeda9e0b315eb022070bc88bc80a554dcd329f773ad53586088327a2b29430"), looks := false }, kinds := [], alts := [], goes := true, laidByText := true, laidKinds := [.funcs], laidTests := true, laidLooks := .later }
def CanvasPartedCardSaid : Prop := Claim7.holds Tryz.pinned (.plain (OpenSpec.ofChange canvasPartedSpec)) canvasPartedCard

/-- THE TIED CARD OF 'velariumlaw02.CanvasAlike'. -/
def canvasAlikeCard : Claim7 := { stood := { row := canvasAlikeRow, standIns := [], harness := (true, "2aeeda9e0b315eb022070bc88bc80a554dcd329f773ad53586088327a2b29430"), looks := false }, kinds := [], alts := [], goes := true, laidByText := true, laidKinds := [.funcs], laidTests := true, laidLooks := .later }
def CanvasAlikeCardSaid : Prop := Claim7.holds Tryz.pinned (.plain (OpenSpec.ofChange canvasAlikeSpec)) canvasAlikeCard

/-- THE TIED CARD OF 'velariumlaw02.CanvasEnds'. -/
def canvasEndsCard : Claim7 := { stood := { row := canvasEndsRow, standIns := [], harness := (true, "2aeeda9e0b315eb022070bc88bc80a554dcd329f773ad53586088327a2b29430"), looks := false }, kinds := [], alts := [], goes := true, laidByText := true, laidKinds := [.funcs], laidTests := true, laidLooks := .later }
def CanvasEndsCardSaid : Prop := Claim7.holds Tryz.pinned (.plain (OpenSpec.ofChange canvasEndsSpec)) canvasEndsCard

/-- THE TIED CARD OF 'velariumlaw02.CanvasUpright'. -/
def canvasUprightCard : Claim7 := { stood := { row := canvasUprightRow, standIns := [], harness := (true, "2aeeda9e0b315eb022070bc88bc80a554dcd329f773ad53586088327a2b29430"), looks := false }, kinds := [], alts := [], goes := true, laidByText := true, laidKinds := [.funcs], laidTests := true, laidLooks := .later }
def CanvasUprightCardSaid : Prop := Claim7.holds Tryz.pinned (.plain (OpenSpec.ofChange canvasUprightSpec)) canvasUprightCard

/-- THE TIED CARD OF 'velariumlaw02.CanvasKept'. -/
def canvasKeptCard : Claim7 := { stood := { row := canvasKeptRow, standIns := [], harness := (true, "2aeeda9e0b315eb022070bc88bc80a554dcd329f773ad53586088327a2b29430"), looks := false }, kinds := [], alts := [], goes := true, laidByText := true, laidKinds := [.funcs], laidTests := true, laidLooks := .later }
def CanvasKeptCardSaid : Prop := Claim7.holds Tryz.pinned (.plain (OpenSpec.ofChange canvasKeptSpec)) canvasKeptCard

/-- THE TIED CARD OF 'velariumlaw02.CanvasNeeded'. -/
def canvasNeededCard : Claim7 := { stood := { row := canvasNeededRow, standIns := [], harness := (true, "2aeeda9e0b315eb022070bc88bc80a554dcd329f773ad53586088327a2b29430"), looks := false }, kinds := [], alts := [], goes := true, laidByText := true, laidKinds := [.funcs], laidTests := true, laidLooks := .later }
def CanvasNeededCardSaid : Prop := Claim7.holds Tryz.pinned (.plain (OpenSpec.ofChange canvasNeededSpec)) canvasNeededCard

/-- THE TIED CARD OF 'velariumlaw02.CanvasClashes'. -/
def canvasClashesCard : Claim7 := { stood := { row := canvasClashesRow, standIns := [], harness := (true, "2aeeda9e0b315eb022070bc88bc80a554dcd329f773ad53586088327a2b29430"), looks := false }, kinds := [], alts := [], goes := true, laidByText := true, laidKinds := [.funcs], laidTests := true, laidLooks := .later }
def CanvasClashesCardSaid : Prop := Claim7.holds Tryz.pinned (.plain (OpenSpec.ofChange canvasClashesSpec)) canvasClashesCard

/-- THE TIED CARD OF 'velariumlaw02.CanvasAsked'. -/
def canvasAskedCard : Claim7 := { stood := { row := canvasAskedRow, standIns := [], harness := (true, "2aeeda9e0b315eb022070bc88bc80a554dcd329f773ad53586088327a2b29430"), looks := false }, kinds := [], alts := [], goes := true, laidByText := true, laidKinds := [.funcs], laidTests := true, laidLooks := .later }
def CanvasAskedCardSaid : Prop := Claim7.holds Tryz.pinned (.plain (OpenSpec.ofChange canvasAskedSpec)) canvasAskedCard

/-- THE TIED CARD OF 'velariumlaw02.CanvasAnyOrder'. -/
def canvasAnyOrderCard : Claim7 := { stood := { row := canvasAnyOrderRow, standIns := [], harness := (true, "2aeeda9e0b315eb022070bc88bc80a554dcd329f773ad53586088327a2b29430"), looks := false }, kinds := [], alts := [], goes := true, laidByText := true, laidKinds := [.funcs], laidTests := true, laidLooks := .later }
def CanvasAnyOrderCardSaid : Prop := Claim7.holds Tryz.pinned (.plain (OpenSpec.ofChange canvasAnyOrderSpec)) canvasAnyOrderCard

/-- THE TIED CARD OF 'velariumlaw02.CanvasStates'. -/
def canvasStatesCard : Claim7 := { stood := { row := canvasStatesRow, standIns := [], harness := (true, "2aeeda9e0b315eb022070bc88bc80a554dcd329f773ad53586088327a2b29430"), looks := false }, kinds := [], alts := [], goes := true, laidByText := true, laidKinds := [.funcs], laidTests := true, laidLooks := .later }
def CanvasStatesCardSaid : Prop := Claim7.holds Tryz.pinned (.plain (OpenSpec.ofChange canvasStatesSpec)) canvasStatesCard

/-- THE TIED CARD OF 'velariumlaw02.CanvasReal'. -/
def canvasRealCard : Claim7 := { stood := { row := canvasRealRow, standIns := [], harness := (true, "2aeeda9e0b315eb022070bc88bc80a554dcd329f773ad53586088327a2b29430"), looks := false }, kinds := [], alts := [], goes := true, laidByText := true, laidKinds := [.funcs], laidTests := true, laidLooks := .later }
def CanvasRealCardSaid : Prop := Claim7.holds Tryz.pinned (.plain (OpenSpec.ofChange canvasRealSpec)) canvasRealCard

/-- THE TIED CARD OF 'velariumlaw02.CanvasNews'. -/
def canvasNewsCard : Claim7 := { stood := { row := canvasNewsRow, standIns := [], harness := (true, "2aeeda9e0b315eb022070bc88bc80a554dcd329f773ad53586088327a2b29430"), looks := false }, kinds := [], alts := [], goes := true, laidByText := true, laidKinds := [.funcs], laidTests := true, laidLooks := .later }
def CanvasNewsCardSaid : Prop := Claim7.holds Tryz.pinned (.plain (OpenSpec.ofChange canvasNewsSpec)) canvasNewsCard

/-- THE TIED CARD OF 'velariumlaw02.CanvasLearnt'. -/
def canvasLearntCard : Claim7 := { stood := { row := canvasLearntRow, standIns := [], harness := (true, "2aeeda9e0b315eb022070bc88bc80a554dcd329f773ad53586088327a2b29430"), looks := false }, kinds := [], alts := [], goes := true, laidByText := true, laidKinds := [.funcs], laidTests := true, laidLooks := .later }
def CanvasLearntCardSaid : Prop := Claim7.holds Tryz.pinned (.plain (OpenSpec.ofChange canvasLearntSpec)) canvasLearntCard

/-- THE TIED CARD OF 'velariumlaw02.CanvasReached'. -/
def canvasReachedCard : Claim7 := { stood := { row := canvasReachedRow, standIns := [], harness := (true, "2aeeda9e0b315eb022070bc88bc80a554dcd329f773ad53586088327a2b29430"), looks := false }, kinds := [], alts := [], goes := true, laidByText := true, laidKinds := [.funcs], laidTests := true, laidLooks := .later }
def CanvasReachedCardSaid : Prop := Claim7.holds Tryz.pinned (.plain (OpenSpec.ofChange canvasReachedSpec)) canvasReachedCard

/-- THE SECOND FORM's CARD OF 'velariumlaw02.CanvasLines'. -/
def canvasLinesUptoCard : Claim7 := { stood := { row := canvasLinesUptoRow, standIns := [], harness := (true, "2aeeda9e0b315eb022070bc88bc80a554dcd329f773ad53586088327a2b29430"), looks := false }, kinds := [], alts := [], goes := true, laidByText := true, laidKinds := [.funcs], laidTests := true, laidLooks := .later }
def CanvasLinesUptoCardSaid : Prop := Claim7.holds Tryz.pinned (.plain (OpenSpec.upto canvasLinesSpec)) canvasLinesUptoCard

/-- THE SECOND FORM's CARD OF 'velariumlaw02.CanvasThings'. -/
def canvasThingsUptoCard : Claim7 := { stood := { row := canvasThingsUptoRow, standIns := [], harness := (true, "2aeeda9e0b315eb022070bc88bc80a554dcd329f773ad53586088327a2b29430"), looks := false }, kinds := [], alts := [], goes := true, laidByText := true, laidKinds := [.funcs], laidTests := true, laidLooks := .later }
def CanvasThingsUptoCardSaid : Prop := Claim7.holds Tryz.pinned (.plain (OpenSpec.upto canvasThingsSpec)) canvasThingsUptoCard

/-- THE SECOND FORM's CARD OF 'velariumlaw02.CanvasExact'. -/
def canvasExactUptoCard : Claim7 := { stood := { row := canvasExactUptoRow, standIns := [], harness := (true, "2aeeda9e0b315eb022070bc88bc80a554dcd329f773ad53586088327a2b29430"), looks := false }, kinds := [], alts := [], goes := true, laidByText := true, laidKinds := [.funcs], laidTests := true, laidLooks := .later }
def CanvasExactUptoCardSaid : Prop := Claim7.holds Tryz.pinned (.plain (OpenSpec.upto canvasExactSpec)) canvasExactUptoCard

/-- THE SECOND FORM's CARD OF 'velariumlaw02.CanvasNearest'. -/
def canvasNearestUptoCard : Claim7 := { stood := { row := canvasNearestUptoRow, standIns := [], harness := (true, "2aeeda9e0b315eb022070bc88bc80a554dcd329f773ad53586088327a2b29430"), looks := false }, kinds := [], alts := [], goes := true, laidByText := true, laidKinds := [.funcs], laidTests := true, laidLooks := .later }
def CanvasNearestUptoCardSaid : Prop := Claim7.holds Tryz.pinned (.plain (OpenSpec.upto canvasNearestSpec)) canvasNearestUptoCard

/-- THE SECOND FORM's CARD OF 'velariumlaw02.CanvasParted'. -/
def canvasPartedUptoCard : Claim7 := { stood := { row := canvasPartedUptoRow, standIns := [], harness := (true, "2aeeda9e0b315eb022070bc88bc80a554dcd329f773ad53586088327a2b29430"), looks := false }, kinds := [], alts := [], goes := true, laidByText := true, laidKinds := [.funcs], laidTests := true, laidLooks := .later }
def CanvasPartedUptoCardSaid : Prop := Claim7.holds Tryz.pinned (.plain (OpenSpec.upto canvasPartedSpec)) canvasPartedUptoCard

/-- THE SECOND FORM's CARD OF 'velariumlaw02.CanvasAlike'. -/
def canvasAlikeUptoCard : Claim7 := { stood := { row := canvasAlikeUptoRow, standIns := [], harness := (true, "2aeeda9e0b315eb022070bc88bc80a554dcd329f773ad53586088327a2b29430"), looks := false }, kinds := [], alts := [], goes := true, laidByText := true, laidKinds := [.funcs], laidTests := true, laidLooks := .later }
def CanvasAlikeUptoCardSaid : Prop := Claim7.holds Tryz.pinned (.plain (OpenSpec.upto canvasAlikeSpec)) canvasAlikeUptoCard

/-- THE SECOND FORM's CARD OF 'velariumlaw02.CanvasEnds'. -/
def canvasEndsUptoCard : Claim7 := { stood := { row := canvasEndsUptoRow, standIns := [], harness := (true, "2aeeda9e0b315eb022070bc88bc80a554dcd329f773ad53586088327a2b29430"), looks := false }, kinds := [], alts := [], goes := true, laidByText := true, laidKinds := [.funcs], laidTests := true, laidLooks := .later }
def CanvasEndsUptoCardSaid : Prop := Claim7.holds Tryz.pinned (.plain (OpenSpec.upto canvasEndsSpec)) canvasEndsUptoCard

/-- THE SECOND FORM's CARD OF 'velariumlaw02.CanvasUpright'. -/
def canvasUprightUptoCard : Claim7 := { stood := { row := canvasUprightUptoRow, standIns := [], harness := (true, "2aeeda9e0b315eb022070bc88bc80a554dcd329f773ad53586088327a2b29430"), looks := false }, kinds := [], alts := [], goes := true, laidByText := true, laidKinds := [.funcs], laidTests := true, laidLooks := .later }
def CanvasUprightUptoCardSaid : Prop := Claim7.holds Tryz.pinned (.plain (OpenSpec.upto canvasUprightSpec)) canvasUprightUptoCard

/-- THE SECOND FORM's CARD OF 'velariumlaw02.CanvasKept'. -/
def canvasKeptUptoCard : Claim7 := { stood := { row := canvasKeptUptoRow, standIns := [], harness := (true, "2aeeda9e0b315eb022070bc88bc80a554dcd329f773ad53586088327a2b29430"), looks := false }, kinds := [], alts := [], goes := true, laidByText := true, laidKinds := [.funcs], laidTests := true, laidLooks := .later }
def CanvasKeptUptoCardSaid : Prop := Claim7.holds Tryz.pinned (.plain (OpenSpec.upto canvasKeptSpec)) canvasKeptUptoCard

/-- THE SECOND FORM's CARD OF 'velariumlaw02.CanvasNeeded'. -/
def canvasNeededUptoCard : Claim7 := { stood := { row := canvasNeededUptoRow, standIns := [], harness := (true, "2aeeda9e0b315eb022070bc88bc80a554dcd329f773ad53586088327a2b29430"), looks := false }, kinds := [], alts := [], goes := true, laidByText := true, laidKinds := [.funcs], laidTests := true, laidLooks := .later }
def CanvasNeededUptoCardSaid : Prop := Claim7.holds Tryz.pinned (.plain (OpenSpec.upto canvasNeededSpec)) canvasNeededUptoCard

/-- THE SECOND FORM's CARD OF 'velariumlaw02.CanvasClashes'. -/
def canvasClashesUptoCard : Claim7 := { stood := { row := canvasClashesUptoRow, standIns := [], harness := (true, "2aeeda9e0b315eb022070bc88bc80a554dcd329f773ad53586088327a2b29430"), looks := false }, kinds := [], alts := [], goes := true, laidByText := true, laidKinds := [.funcs], laidTests := true, laidLooks := .later }
def CanvasClashesUptoCardSaid : Prop := Claim7.holds Tryz.pinned (.plain (OpenSpec.upto canvasClashesSpec)) canvasClashesUptoCard

/-- THE SECOND FORM's CARD OF 'velariumlaw02.CanvasAsked'. -/
def canvasAskedUptoCard : Claim7 := { stood := { row := canvasAskedUptoRow, standIns := [], harness := (true, "2aeeda9e0b315eb022070bc88bc80a554dcd329f773ad53586088327a2b29430"), looks := false }, kinds := [], alts := [], goes := true, laidByText := true, laidKinds := [.funcs], laidTests := true, laidLooks := .later }
def CanvasAskedUptoCardSaid : Prop := Claim7.holds Tryz.pinned (.plain (OpenSpec.upto canvasAskedSpec)) canvasAskedUptoCard

/-- THE SECOND FORM's CARD OF 'velariumlaw02.CanvasAnyOrder'. -/
def canvasAnyOrderUptoCard : Claim7 := { stood := { row := canvasAnyOrderUptoRow, standIns := [], harness := (true, "2aeeda9e0b315eb022070bc88bc80a554dcd329f773ad53586088327a2b29430"), looks := false }, kinds := [], alts := [], goes := true, laidByText := true, laidKinds := [.funcs], laidTests := true, laidLooks := .later }
def CanvasAnyOrderUptoCardSaid : Prop := Claim7.holds Tryz.pinned (.plain (OpenSpec.upto canvasAnyOrderSpec)) canvasAnyOrderUptoCard

/-- THE SECOND FORM's CARD OF 'velariumlaw02.CanvasStates'. -/
def canvasStatesUptoCard : Claim7 := { stood := { row := canvasStatesUptoRow, standIns := [], harness := (true, "2aeeda9e0b315eb022070bc88bc80a554dcd329f773ad53586088327a2b29430"), looks := false }, kinds := [], alts := [], goes := true, laidByText := true, laidKinds := [.funcs], laidTests := true, laidLooks := .later }
def CanvasStatesUptoCardSaid : Prop := Claim7.holds Tryz.pinned (.plain (OpenSpec.upto canvasStatesSpec)) canvasStatesUptoCard

/-- THE SECOND FORM's CARD OF 'velariumlaw02.CanvasReal'. -/
def canvasRealUptoCard : Claim7 := { stood := { row := canvasRealUptoRow, standIns := [], harness := (true, "2aeeda9e0b315eb022070bc88bc80a554dcd329f773ad53586088327a2b29430"), looks := false }, kinds := [], alts := [], goes := true, laidByText := true, laidKinds := [.funcs], laidTests := true, laidLooks := .later }
def CanvasRealUptoCardSaid : Prop := Claim7.holds Tryz.pinned (.plain (OpenSpec.upto canvasRealSpec)) canvasRealUptoCard

/-- THE SECOND FORM's CARD OF 'velariumlaw02.CanvasNews'. -/
def canvasNewsUptoCard : Claim7 := { stood := { row := canvasNewsUptoRow, standIns := [], harness := (true, "2aeeda9e0b315eb022070bc88bc80a554dcd329f773ad53586088327a2b29430"), looks := false }, kinds := [], alts := [], goes := true, laidByText := true, laidKinds := [.funcs], laidTests := true, laidLooks := .later }
def CanvasNewsUptoCardSaid : Prop := Claim7.holds Tryz.pinned (.plain (OpenSpec.upto canvasNewsSpec)) canvasNewsUptoCard

/-- THE SECOND FORM's CARD OF 'velariumlaw02.CanvasLearnt'. -/
def canvasLearntUptoCard : Claim7 := { stood := { row := canvasLearntUptoRow, standIns := [], harness := (true, "2aeeda9e0b315eb022070bc88bc80a554dcd329f773ad53586088327a2b29430"), looks := false }, kinds := [], alts := [], goes := true, laidByText := true, laidKinds := [.funcs], laidTests := true, laidLooks := .later }
def CanvasLearntUptoCardSaid : Prop := Claim7.holds Tryz.pinned (.plain (OpenSpec.upto canvasLearntSpec)) canvasLearntUptoCard

/-- THE SECOND FORM's CARD OF 'velariumlaw02.CanvasReached'. -/
def canvasReachedUptoCard : Claim7 := { stood := { row := canvasReachedUptoRow, standIns := [], harness := (true, "2aeeda9e0b315eb022070bc88bc80a554dcd329f773ad53586088327a2b29430"), looks := false }, kinds := [], alts := [], goes := true, laidByText := true, laidKinds := [.funcs], laidTests := true, laidLooks := .later }
def CanvasReachedUptoCardSaid : Prop := Claim7.holds Tryz.pinned (.plain (OpenSpec.upto canvasReachedSpec)) canvasReachedUptoCard
end Rows
end Go.Proofs.YtokdmiiejfmomaaGreatDoor
