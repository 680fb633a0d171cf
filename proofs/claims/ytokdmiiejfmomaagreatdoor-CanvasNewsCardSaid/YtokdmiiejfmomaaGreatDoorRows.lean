/-
  NARROWER THAN 'FOR EVERY INPUT', by the rows' own cells (each row's printed sentence says how): CanvasLines: laid · CanvasThings: laid · CanvasExact: laid · CanvasNearest: laid · CanvasParted: laid · CanvasAlike: laid · CanvasEnds: laid · CanvasUpright: laid · CanvasKept: laid · CanvasNeeded: laid · CanvasClashes: laid · CanvasAsked: laid · CanvasAnyOrder: laid · CanvasStates: laid · CanvasReal: laid · CanvasNews: laid · CanvasLearnt: laid · CanvasReached: laid.
  DERIVED. THE GIVEN ROWS OF THIS SEAT. 18 by the template 'for every input the law returns true; each argument reads behind the call as it read before'; 0 by the template 'total and deterministic' (their statements: YtokdmiiejfmomaaGreatDoorTotals.lean).
  GIVEN WITH THE SEED: the statements are not yours to turn. If you find one false, say at which input.
  Laid BY PROGRAM, IN A SANDBOX (cutbox-rows.mjs): the forced cells as the released guide's own fill.sh prints them over the translation 2d5c86d44a4483fa… (all of the seat's roots in one cut). By AI agents, Wed Nov 11 2026. No macro, syntax, notation, axiom, sorry.
-/
import Derived.Test.YtokdmiiejfmomaaGreatDoorChecked
import GoSem.Claim
import GoSem.ClaimJoined
import GoSem.ClaimMapViews
import Derived.JoinedTies
import Derived.KernelRfl
namespace Go.Proofs.YtokdmiiejfmomaaGreatDoor
/- THE CELL 'sum', in the pinned program and in every row, IS THE sha256 OF THE DUMP (.gsa) THAT YtokdmiiejfmomaaGreatDoorProg.lean LOADS. Nothing in Lean hashes anything: it is a label: what it is worth is what the hold of that sum in a sandbox is worth. -/
noncomputable def Tryz.pinned : Pinned := { name := "ytokdmiiejfmomaagreatdoor", sum := "2d5c86d44a4483fa4ea821afd34daa47aa47bb3c42a6f49f58cc3259560efc38", checked := Tryz.checked }
namespace Rows
def none {H : Type} : Left H := { results := [], args := [] }

/- WHAT THE LISTED PACKAGE-LEVEL VARIABLES READ AS WHEN THE CALL BEGINS. Each datum BY PROGRAM (the guide's laid-datum.mjs) off the statement by which the dump's own 'gosem.cut.vars' lays the variable. In a bare row this is a premise. The card (YtokdmiiejfmomaaGreatDoorCards.lean) ties it to the program's text. -/
def laid_velarium_canvas_checks {H : Type} : DataW H := .iface "func table" (.agg [.agg [.iface "func" (.lit (.string [118, 101, 108, 97, 114, 105, 117, 109, 47, 99, 97, 110, 118, 97, 115, 46, 99, 104, 101, 99, 107, 115, 36, 49]))], .agg [.iface "func" (.lit (.string [118, 101, 108, 97, 114, 105, 117, 109, 47, 99, 97, 110, 118, 97, 115, 46, 99, 104, 101, 99, 107, 115, 36, 50]))], .agg [.iface "func" (.lit (.string [118, 101, 108, 97, 114, 105, 117, 109, 47, 99, 97, 110, 118, 97, 115, 46, 99, 104, 101, 99, 107, 115, 36, 51]))]])

/-- 'velariumlaw02.CanvasLines': WHATEVER THE INPUT: true; the input reads as it did. -/
def canvasLinesSpec : ChangeSpec := { name := "canvasLines", fn := fun _ => fun
  | [d1, d2, d3] => { results := [.lit (.bool true)], args := [d1, d2, d3] }
  | _ => none }
def canvasLinesRow : OpenClaim := { program := "ytokdmiiejfmomaagreatdoor", sum := "2d5c86d44a4483fa4ea821afd34daa47aa47bb3c42a6f49f58cc3259560efc38", func := "velarium/velariumlaw02.CanvasLines", spec := "canvasLines", unfollowed := true, recurses := true, named := ["velarium/canvas.checks"], plainKeys := false, leaving := true, apart := false, laid := [("velarium/canvas.checks", laid_velarium_canvas_checks)] }
def CanvasLinesSaid : Prop := canvasLinesRow.holds Tryz.pinned (OpenSpec.ofChange canvasLinesSpec)

/-- ITS FALSE NEIGHBOUR: 'it returns false'. Refute it at one input. -/
def canvasLinesWrong : ChangeSpec := { name := "canvasLines", fn := fun _ => fun
  | [d1, d2, d3] => { results := [.lit (.bool false)], args := [d1, d2, d3] }
  | _ => none }
def CanvasLinesWrongFalsely : Prop := canvasLinesRow.holds Tryz.pinned (OpenSpec.ofChange canvasLinesWrong)

/-- 'velariumlaw02.CanvasThings': WHATEVER THE INPUT: true; the input reads as it did. -/
def canvasThingsSpec : ChangeSpec := { name := "canvasThings", fn := fun _ => fun
  | [d1, d2, d3, d4, d5, d6] => { results := [.lit (.bool true)], args := [d1, d2, d3, d4, d5, d6] }
  | _ => none }
def canvasThingsRow : OpenClaim := { program := "ytokdmiiejfmomaagreatdoor", sum := "2d5c86d44a4483fa4ea821afd34daa47aa47bb3c42a6f49f58cc3259560efc38", func := "velarium/velariumlaw02.CanvasThings", spec := "canvasThings", unfollowed := true, recurses := true, named := ["velarium/canvas.checks"], plainKeys := false, leaving := true, apart := false, laid := [("velarium/canvas.checks", laid_velarium_canvas_checks)] }
def CanvasThingsSaid : Prop := canvasThingsRow.holds Tryz.pinned (OpenSpec.ofChange canvasThingsSpec)

/-- ITS FALSE NEIGHBOUR: 'it returns false'. Refute it at one input. -/
def canvasThingsWrong : ChangeSpec := { name := "canvasThings", fn := fun _ => fun
  | [d1, d2, d3, d4, d5, d6] => { results := [.lit (.bool false)], args := [d1, d2, d3, d4, d5, d6] }
  | _ => none }
def CanvasThingsWrongFalsely : Prop := canvasThingsRow.holds Tryz.pinned (OpenSpec.ofChange canvasThingsWrong)

/-- 'velariumlaw02.CanvasExact': WHATEVER THE INPUT: true; the input reads as it did. -/
def canvasExactSpec : ChangeSpec := { name := "canvasExact", fn := fun _ => fun
  | [d1, d2, d3, d4] => { results := [.lit (.bool true)], args := [d1, d2, d3, d4] }
  | _ => none }
def canvasExactRow : OpenClaim := { program := "ytokdmiiejfmomaagreatdoor", sum := "2d5c86d44a4483fa4ea821afd34daa47aa47bb3c42a6f49f58cc3259560efc38", func := "velarium/velariumlaw02.CanvasExact", spec := "canvasExact", unfollowed := true, recurses := true, named := ["velarium/canvas.checks"], plainKeys := false, leaving := true, apart := false, laid := [("velarium/canvas.checks", laid_velarium_canvas_checks)] }
def CanvasExactSaid : Prop := canvasExactRow.holds Tryz.pinned (OpenSpec.ofChange canvasExactSpec)

/-- ITS FALSE NEIGHBOUR: 'it returns false'. Refute it at one input. -/
def canvasExactWrong : ChangeSpec := { name := "canvasExact", fn := fun _ => fun
  | [d1, d2, d3, d4] => { results := [.lit (.bool false)], args := [d1, d2, d3, d4] }
  | _ => none }
def CanvasExactWrongFalsely : Prop := canvasExactRow.holds Tryz.pinned (OpenSpec.ofChange canvasExactWrong)

/-- 'velariumlaw02.CanvasNearest': WHATEVER THE INPUT: true; the input reads as it did. -/
def canvasNearestSpec : ChangeSpec := { name := "canvasNearest", fn := fun _ => fun
  | [d1, d2, d3, d4] => { results := [.lit (.bool true)], args := [d1, d2, d3, d4] }
  | _ => none }
def canvasNearestRow : OpenClaim := { program := "ytokdmiiejfmomaagreatdoor", sum := "2d5c86d44a4483fa4ea821afd34daa47aa47bb3c42a6f49f58cc3259560efc38", func := "velarium/velariumlaw02.CanvasNearest", spec := "canvasNearest", unfollowed := true, recurses := true, named := ["velarium/canvas.checks"], plainKeys := false, leaving := true, apart := false, laid := [("velarium/canvas.checks", laid_velarium_canvas_checks)] }
def CanvasNearestSaid : Prop := canvasNearestRow.holds Tryz.pinned (OpenSpec.ofChange canvasNearestSpec)

/-- ITS FALSE NEIGHBOUR: 'it returns false'. Refute it at one input. -/
def canvasNearestWrong : ChangeSpec := { name := "canvasNearest", fn := fun _ => fun
  | [d1, d2, d3, d4] => { results := [.lit (.bool false)], args := [d1, d2, d3, d4] }
  | _ => none }
def CanvasNearestWrongFalsely : Prop := canvasNearestRow.holds Tryz.pinned (OpenSpec.ofChange canvasNearestWrong)

/-- 'velariumlaw02.CanvasParted': WHATEVER THE INPUT: true; the input reads as it did. -/
def canvasPartedSpec : ChangeSpec := { name := "canvasParted", fn := fun _ => fun
  | [d1, d2, d3, d4, d5, d6, d7, d8] => { results := [.lit (.bool true)], args := [d1, d2, d3, d4, d5, d6, d7, d8] }
  | _ => none }
def canvasPartedRow : OpenClaim := { program := "ytokdmiiejfmomaagreatdoor", sum := "2d5c86d44a4483fa4ea821afd34daa47aa47bb3c42a6f49f58cc3259560efc38", func := "velarium/velariumlaw02.CanvasParted", spec := "canvasParted", unfollowed := true, recurses := true, named := ["velarium/canvas.checks"], plainKeys := false, leaving := true, apart := false, laid := [("velarium/canvas.checks", laid_velarium_canvas_checks)] }
def CanvasPartedSaid : Prop := canvasPartedRow.holds Tryz.pinned (OpenSpec.ofChange canvasPartedSpec)

/-- ITS FALSE NEIGHBOUR: 'it returns false'. Refute it at one input. -/
def canvasPartedWrong : ChangeSpec := { name := "canvasParted", fn := fun _ => fun
  | [d1, d2, d3, d4, d5, d6, d7, d8] => { results := [.lit (.bool false)], args := [d1, d2, d3, d4, d5, d6, d7, d8] }
  | _ => none }
def CanvasPartedWrongFalsely : Prop := canvasPartedRow.holds Tryz.pinned (OpenSpec.ofChange canvasPartedWrong)

/-- 'velariumlaw02.CanvasAlike': WHATEVER THE INPUT: true; the input reads as it did. -/
def canvasAlikeSpec : ChangeSpec := { name := "canvasAlike", fn := fun _ => fun
  | [d1, d2, d3, d4, d5] => { results := [.lit (.bool true)], args := [d1, d2, d3, d4, d5] }
  | _ => none }
def canvasAlikeRow : OpenClaim := { program := "ytokdmiiejfmomaagreatdoor", sum := "2d5c86d44a4483fa4ea821afd34daa47aa47bb3c42a6f49f58cc3259560efc38", func := "velarium/velariumlaw02.CanvasAlike", spec := "canvasAlike", unfollowed := true, recurses := true, named := ["velarium/canvas.checks"], plainKeys := false, leaving := true, apart := false, laid := [("velarium/canvas.checks", laid_velarium_canvas_checks)] }
def CanvasAlikeSaid : Prop := canvasAlikeRow.holds Tryz.pinned (OpenSpec.ofChange canvasAlikeSpec)

/-- ITS FALSE NEIGHBOUR: 'it returns false'. Refute it at one input. -/
def canvasAlikeWrong : ChangeSpec := { name := "canvasAlike", fn := fun _ => fun
  | [d1, d2, d3, d4, d5] => { results := [.lit (.bool false)], args := [d1, d2, d3, d4, d5] }
  | _ => none }
def CanvasAlikeWrongFalsely : Prop := canvasAlikeRow.holds Tryz.pinned (OpenSpec.ofChange canvasAlikeWrong)

/-- 'velariumlaw02.CanvasEnds': WHATEVER THE INPUT: true; the input reads as it did. -/
def canvasEndsSpec : ChangeSpec := { name := "canvasEnds", fn := fun _ => fun
  | [d1, d2, d3, d4] => { results := [.lit (.bool true)], args := [d1, d2, d3, d4] }
  | _ => none }
def canvasEndsRow : OpenClaim := { program := "ytokdmiiejfmomaagreatdoor", sum := "2d5c86d44a4483fa4ea821afd34daa47aa47bb3c42a6f49f58cc3259560efc38", func := "velarium/velariumlaw02.CanvasEnds", spec := "canvasEnds", unfollowed := true, recurses := true, named := ["velarium/canvas.checks"], plainKeys := false, leaving := true, apart := false, laid := [("velarium/canvas.checks", laid_velarium_canvas_checks)] }
def CanvasEndsSaid : Prop := canvasEndsRow.holds Tryz.pinned (OpenSpec.ofChange canvasEndsSpec)

/-- ITS FALSE NEIGHBOUR: 'it returns false'. Refute it at one input. -/
def canvasEndsWrong : ChangeSpec := { name := "canvasEnds", fn := fun _ => fun
  | [d1, d2, d3, d4] => { results := [.lit (.bool false)], args := [d1, d2, d3, d4] }
  | _ => none }
def CanvasEndsWrongFalsely : Prop := canvasEndsRow.holds Tryz.pinned (OpenSpec.ofChange canvasEndsWrong)

/-- 'velariumlaw02.CanvasUpright': WHATEVER THE INPUT: true; the input reads as it did. -/
def canvasUprightSpec : ChangeSpec := { name := "canvasUpright", fn := fun _ => fun
  | [d1, d2, d3, d4, d5, d6] => { results := [.lit (.bool true)], args := [d1, d2, d3, d4, d5, d6] }
  | _ => none }
def canvasUprightRow : OpenClaim := { program := "ytokdmiiejfmomaagreatdoor", sum := "2d5c86d44a4483fa4ea821afd34daa47aa47bb3c42a6f49f58cc3259560efc38", func := "velarium/velariumlaw02.CanvasUpright", spec := "canvasUpright", unfollowed := true, recurses := true, named := ["velarium/canvas.checks"], plainKeys := false, leaving := true, apart := false, laid := [("velarium/canvas.checks", laid_velarium_canvas_checks)] }
def CanvasUprightSaid : Prop := canvasUprightRow.holds Tryz.pinned (OpenSpec.ofChange canvasUprightSpec)

/-- ITS FALSE NEIGHBOUR: 'it returns false'. Refute it at one input. -/
def canvasUprightWrong : ChangeSpec := { name := "canvasUpright", fn := fun _ => fun
  | [d1, d2, d3, d4, d5, d6] => { results := [.lit (.bool false)], args := [d1, d2, d3, d4, d5, d6] }
  | _ => none }
def CanvasUprightWrongFalsely : Prop := canvasUprightRow.holds Tryz.pinned (OpenSpec.ofChange canvasUprightWrong)

/-- 'velariumlaw02.CanvasKept': WHATEVER THE INPUT: true; the input reads as it did. -/
def canvasKeptSpec : ChangeSpec := { name := "canvasKept", fn := fun _ => fun
  | [d1, d2, d3, d4, d5] => { results := [.lit (.bool true)], args := [d1, d2, d3, d4, d5] }
  | _ => none }
def canvasKeptRow : OpenClaim := { program := "ytokdmiiejfmomaagreatdoor", sum := "2d5c86d44a4483fa4ea821afd34daa47aa47bb3c42a6f49f58cc3259560efc38", func := "velarium/velariumlaw02.CanvasKept", spec := "canvasKept", unfollowed := true, recurses := true, named := ["velarium/canvas.checks"], plainKeys := false, leaving := true, apart := false, laid := [("velarium/canvas.checks", laid_velarium_canvas_checks)] }
def CanvasKeptSaid : Prop := canvasKeptRow.holds Tryz.pinned (OpenSpec.ofChange canvasKeptSpec)

/-- ITS FALSE NEIGHBOUR: 'it returns false'. Refute it at one input. -/
def canvasKeptWrong : ChangeSpec := { name := "canvasKept", fn := fun _ => fun
  | [d1, d2, d3, d4, d5] => { results := [.lit (.bool false)], args := [d1, d2, d3, d4, d5] }
  | _ => none }
def CanvasKeptWrongFalsely : Prop := canvasKeptRow.holds Tryz.pinned (OpenSpec.ofChange canvasKeptWrong)

/-- 'velariumlaw02.CanvasNeeded': WHATEVER THE INPUT: true; the input reads as it did. -/
def canvasNeededSpec : ChangeSpec := { name := "canvasNeeded", fn := fun _ => fun
  | [d1, d2] => { results := [.lit (.bool true)], args := [d1, d2] }
  | _ => none }
def canvasNeededRow : OpenClaim := { program := "ytokdmiiejfmomaagreatdoor", sum := "2d5c86d44a4483fa4ea821afd34daa47aa47bb3c42a6f49f58cc3259560efc38", func := "velarium/velariumlaw02.CanvasNeeded", spec := "canvasNeeded", unfollowed := true, recurses := true, named := ["velarium/canvas.checks"], plainKeys := false, leaving := true, apart := false, laid := [("velarium/canvas.checks", laid_velarium_canvas_checks)] }
def CanvasNeededSaid : Prop := canvasNeededRow.holds Tryz.pinned (OpenSpec.ofChange canvasNeededSpec)

/-- ITS FALSE NEIGHBOUR: 'it returns false'. Refute it at one input. -/
def canvasNeededWrong : ChangeSpec := { name := "canvasNeeded", fn := fun _ => fun
  | [d1, d2] => { results := [.lit (.bool false)], args := [d1, d2] }
  | _ => none }
def CanvasNeededWrongFalsely : Prop := canvasNeededRow.holds Tryz.pinned (OpenSpec.ofChange canvasNeededWrong)

/-- 'velariumlaw02.CanvasClashes': WHATEVER THE INPUT: true; the input reads as it did. -/
def canvasClashesSpec : ChangeSpec := { name := "canvasClashes", fn := fun _ => fun
  | [d1, d2] => { results := [.lit (.bool true)], args := [d1, d2] }
  | _ => none }
def canvasClashesRow : OpenClaim := { program := "ytokdmiiejfmomaagreatdoor", sum := "2d5c86d44a4483fa4ea821afd34daa47aa47bb3c42a6f49f58cc3259560efc38", func := "velarium/velariumlaw02.CanvasClashes", spec := "canvasClashes", unfollowed := true, recurses := true, named := ["velarium/canvas.checks"], plainKeys := false, leaving := true, apart := false, laid := [("velarium/canvas.checks", laid_velarium_canvas_checks)] }
def CanvasClashesSaid : Prop := canvasClashesRow.holds Tryz.pinned (OpenSpec.ofChange canvasClashesSpec)

/-- ITS FALSE NEIGHBOUR: 'it returns false'. Refute it at one input. -/
def canvasClashesWrong : ChangeSpec := { name := "canvasClashes", fn := fun _ => fun
  | [d1, d2] => { results := [.lit (.bool false)], args := [d1, d2] }
  | _ => none }
def CanvasClashesWrongFalsely : Prop := canvasClashesRow.holds Tryz.pinned (OpenSpec.ofChange canvasClashesWrong)

/-- 'velariumlaw02.CanvasAsked': WHATEVER THE INPUT: true; the input reads as it did. -/
def canvasAskedSpec : ChangeSpec := { name := "canvasAsked", fn := fun _ => fun
  | [d1, d2, d3, d4] => { results := [.lit (.bool true)], args := [d1, d2, d3, d4] }
  | _ => none }
def canvasAskedRow : OpenClaim := { program := "ytokdmiiejfmomaagreatdoor", sum := "2d5c86d44a4483fa4ea821afd34daa47aa47bb3c42a6f49f58cc3259560efc38", func := "velarium/velariumlaw02.CanvasAsked", spec := "canvasAsked", unfollowed := true, recurses := true, named := ["velarium/canvas.checks"], plainKeys := false, leaving := true, apart := false, laid := [("velarium/canvas.checks", laid_velarium_canvas_checks)] }
def CanvasAskedSaid : Prop := canvasAskedRow.holds Tryz.pinned (OpenSpec.ofChange canvasAskedSpec)

/-- ITS FALSE NEIGHBOUR: 'it returns false'. Refute it at one input. -/
def canvasAskedWrong : ChangeSpec := { name := "canvasAsked", fn := fun _ => fun
  | [d1, d2, d3, d4] => { results := [.lit (.bool false)], args := [d1, d2, d3, d4] }
  | _ => none }
def CanvasAskedWrongFalsely : Prop := canvasAskedRow.holds Tryz.pinned (OpenSpec.ofChange canvasAskedWrong)

/-- 'velariumlaw02.CanvasAnyOrder': WHATEVER THE INPUT: true; the input reads as it did. -/
def canvasAnyOrderSpec : ChangeSpec := { name := "canvasAnyOrder", fn := fun _ => fun
  | [d1, d2, d3, d4] => { results := [.lit (.bool true)], args := [d1, d2, d3, d4] }
  | _ => none }
def canvasAnyOrderRow : OpenClaim := { program := "ytokdmiiejfmomaagreatdoor", sum := "2d5c86d44a4483fa4ea821afd34daa47aa47bb3c42a6f49f58cc3259560efc38", func := "velarium/velariumlaw02.CanvasAnyOrder", spec := "canvasAnyOrder", unfollowed := true, recurses := true, named := ["velarium/canvas.checks"], plainKeys := false, leaving := true, apart := false, laid := [("velarium/canvas.checks", laid_velarium_canvas_checks)] }
def CanvasAnyOrderSaid : Prop := canvasAnyOrderRow.holds Tryz.pinned (OpenSpec.ofChange canvasAnyOrderSpec)

/-- ITS FALSE NEIGHBOUR: 'it returns false'. Refute it at one input. -/
def canvasAnyOrderWrong : ChangeSpec := { name := "canvasAnyOrder", fn := fun _ => fun
  | [d1, d2, d3, d4] => { results := [.lit (.bool false)], args := [d1, d2, d3, d4] }
  | _ => none }
def CanvasAnyOrderWrongFalsely : Prop := canvasAnyOrderRow.holds Tryz.pinned (OpenSpec.ofChange canvasAnyOrderWrong)

/-- 'velariumlaw02.CanvasStates': WHATEVER THE INPUT: true; the input reads as it did. -/
def canvasStatesSpec : ChangeSpec := { name := "canvasStates", fn := fun _ => fun
  | [d1, d2, d3, d4, d5] => { results := [.lit (.bool true)], args := [d1, d2, d3, d4, d5] }
  | _ => none }
def canvasStatesRow : OpenClaim := { program := "ytokdmiiejfmomaagreatdoor", sum := "2d5c86d44a4483fa4ea821afd34daa47aa47bb3c42a6f49f58cc3259560efc38", func := "velarium/velariumlaw02.CanvasStates", spec := "canvasStates", unfollowed := true, recurses := true, named := ["velarium/canvas.checks"], plainKeys := false, leaving := true, apart := false, laid := [("velarium/canvas.checks", laid_velarium_canvas_checks)] }
def CanvasStatesSaid : Prop := canvasStatesRow.holds Tryz.pinned (OpenSpec.ofChange canvasStatesSpec)

/-- ITS FALSE NEIGHBOUR: 'it returns false'. Refute it at one input. -/
def canvasStatesWrong : ChangeSpec := { name := "canvasStates", fn := fun _ => fun
  | [d1, d2, d3, d4, d5] => { results := [.lit (.bool false)], args := [d1, d2, d3, d4, d5] }
  | _ => none }
def CanvasStatesWrongFalsely : Prop := canvasStatesRow.holds Tryz.pinned (OpenSpec.ofChange canvasStatesWrong)

/-- 'velariumlaw02.CanvasReal': WHATEVER THE INPUT: true; the input reads as it did. -/
def canvasRealSpec : ChangeSpec := { name := "canvasReal", fn := fun _ => fun
  | [d1, d2, d3, d4, d5] => { results := [.lit (.bool true)], args := [d1, d2, d3, d4, d5] }
  | _ => none }
def canvasRealRow : OpenClaim := { program := "ytokdmiiejfmomaagreatdoor", sum := "2d5c86d44a4483fa4ea821afd34daa47aa47bb3c42a6f49f58cc3259560efc38", func := "velarium/velariumlaw02.CanvasReal", spec := "canvasReal", unfollowed := true, recurses := true, named := ["velarium/canvas.checks"], plainKeys := false, leaving := true, apart := false, laid := [("velarium/canvas.checks", laid_velarium_canvas_checks)] }
def CanvasRealSaid : Prop := canvasRealRow.holds Tryz.pinned (OpenSpec.ofChange canvasRealSpec)

/-- ITS FALSE NEIGHBOUR: 'it returns false'. Refute it at one input. -/
def canvasRealWrong : ChangeSpec := { name := "canvasReal", fn := fun _ => fun
  | [d1, d2, d3, d4, d5] => { results := [.lit (.bool false)], args := [d1, d2, d3, d4, d5] }
  | _ => none }
def CanvasRealWrongFalsely : Prop := canvasRealRow.holds Tryz.pinned (OpenSpec.ofChange canvasRealWrong)

/-- 'velariumlaw02.CanvasNews': WHATEVER THE INPUT: true; the input reads as it did. -/
def canvasNewsSpec : ChangeSpec := { name := "canvasNews", fn := fun _ => fun
  | [d1, d2, d3, d4] => { results := [.lit (.bool true)], args := [d1, d2, d3, d4] }
  | _ => none }
def canvasNewsRow : OpenClaim := { program := "ytokdmiiejfmomaagreatdoor", sum := "2d5c86d44a4483fa4ea821afd34daa47aa47bb3c42a6f49f58cc3259560efc38", func := "velarium/velariumlaw02.CanvasNews", spec := "canvasNews", unfollowed := true, recurses := true, named := ["velarium/canvas.checks"], plainKeys := false, leaving := true, apart := false, laid := [("velarium/canvas.checks", laid_velarium_canvas_checks)] }
def CanvasNewsSaid : Prop := canvasNewsRow.holds Tryz.pinned (OpenSpec.ofChange canvasNewsSpec)

/-- ITS FALSE NEIGHBOUR: 'it returns false'. Refute it at one input. -/
def canvasNewsWrong : ChangeSpec := { name := "canvasNews", fn := fun _ => fun
  | [d1, d2, d3, d4] => { results := [.lit (.bool false)], args := [d1, d2, d3, d4] }
  | _ => none }
def CanvasNewsWrongFalsely : Prop := canvasNewsRow.holds Tryz.pinned (OpenSpec.ofChange canvasNewsWrong)

/-- 'velariumlaw02.CanvasLearnt': WHATEVER THE INPUT: true; the input reads as it did. -/
def canvasLearntSpec : ChangeSpec := { name := "canvasLearnt", fn := fun _ => fun
  | [d1, d2, d3, d4, d5, d6] => { results := [.lit (.bool true)], args := [d1, d2, d3, d4, d5, d6] }
  | _ => none }
def canvasLearntRow : OpenClaim := { program := "ytokdmiiejfmomaagreatdoor", sum := "2d5c86d44a4483fa4ea821afd34daa47aa47bb3c42a6f49f58cc3259560efc38", func := "velarium/velariumlaw02.CanvasLearnt", spec := "canvasLearnt", unfollowed := true, recurses := true, named := ["velarium/canvas.checks"], plainKeys := false, leaving := true, apart := false, laid := [("velarium/canvas.checks", laid_velarium_canvas_checks)] }
def CanvasLearntSaid : Prop := canvasLearntRow.holds Tryz.pinned (OpenSpec.ofChange canvasLearntSpec)

/-- ITS FALSE NEIGHBOUR: 'it returns false'. Refute it at one input. -/
def canvasLearntWrong : ChangeSpec := { name := "canvasLearnt", fn := fun _ => fun
  | [d1, d2, d3, d4, d5, d6] => { results := [.lit (.bool false)], args := [d1, d2, d3, d4, d5, d6] }
  | _ => none }
def CanvasLearntWrongFalsely : Prop := canvasLearntRow.holds Tryz.pinned (OpenSpec.ofChange canvasLearntWrong)

/-- 'velariumlaw02.CanvasReached': WHATEVER THE INPUT: true; the input reads as it did. -/
def canvasReachedSpec : ChangeSpec := { name := "canvasReached", fn := fun _ => fun
  | [d1, d2, d3, d4, d5] => { results := [.lit (.bool true)], args := [d1, d2, d3, d4, d5] }
  | _ => none }
def canvasReachedRow : OpenClaim := { program := "ytokdmiiejfmomaagreatdoor", sum := "2d5c86d44a4483fa4ea821afd34daa47aa47bb3c42a6f49f58cc3259560efc38", func := "velarium/velariumlaw02.CanvasReached", spec := "canvasReached", unfollowed := true, recurses := true, named := ["velarium/canvas.checks"], plainKeys := false, leaving := true, apart := false, laid := [("velarium/canvas.checks", laid_velarium_canvas_checks)] }
def CanvasReachedSaid : Prop := canvasReachedRow.holds Tryz.pinned (OpenSpec.ofChange canvasReachedSpec)

/-- ITS FALSE NEIGHBOUR: 'it returns false'. Refute it at one input. -/
def canvasReachedWrong : ChangeSpec := { name := "canvasReached", fn := fun _ => fun
  | [d1, d2, d3, d4, d5] => { results := [.lit (.bool false)], args := [d1, d2, d3, d4, d5] }
  | _ => none }
def CanvasReachedWrongFalsely : Prop := canvasReachedRow.holds Tryz.pinned (OpenSpec.ofChange canvasReachedWrong)

/- THE SECOND FORM. 'bulk': how many values and letters a reading holds, each counted each time it is reached (what is shared counts as often as it is met; a slice's spare places count too). A statement '..UptoSaid' is the law's where the arguments, and the package variables that the reading takes, are together of bulk at most 1048576: NARROWER than '..Said'. Prove '..Said' where nothing that the law and all that it calls make is longer than what came in: it says more and counts as full. Else prove '..UptoSaid'. A law counts once. -/
mutual
def uptoBulk {H : Type} : DataW H → Nat
  | .lit (.string bytes) => bytes.length + 1
  | .lit _ => 1
  | .nil => 1
  | .ptr d => uptoBulk d + 1
  | .slice elems spare => uptoBulkAll elems + uptoBulkAll spare + 1
  | .agg parts => uptoBulkAll parts + 1
  | .iface _ d => uptoBulk d + 1
  | .map entries => uptoBulkEntries entries + 1
  | .held _ => 1
def uptoBulkAll {H : Type} : List (DataW H) → Nat
  | [] => 0
  | d :: r => uptoBulk d + uptoBulkAll r
def uptoBulkEntries {H : Type} : List (Lit × DataW H) → Nat
  | [] => 0
  | x :: r => uptoBulkEntry x + uptoBulkEntries r
def uptoBulkEntry {H : Type} : Lit × DataW H → Nat
  | (.string bytes, d) => bytes.length + uptoBulk d + 1
  | (_, d) => uptoBulk d + 1
 end
def uptoSmall : (H : Type) → List (DataW H) → Bool := fun _ ds => decide (uptoBulkAll ds ≤ 1048576)
def OpenSpec.upto (s : _root_.Go.ChangeSpec) : _root_.Go.OpenSpec := { _root_.Go.OpenSpec.ofChange s with cond := some uptoSmall }

/-- 'velariumlaw02.CanvasLines', WHERE WHAT IT READS IS OF BULK AT MOST 1048576: true; the input reads as it did. -/
def canvasLinesUptoRow : OpenClaim := { program := "ytokdmiiejfmomaagreatdoor", sum := "2d5c86d44a4483fa4ea821afd34daa47aa47bb3c42a6f49f58cc3259560efc38", func := "velarium/velariumlaw02.CanvasLines", spec := "canvasLines", unfollowed := true, recurses := true, named := ["velarium/canvas.checks"], plainKeys := false, leaving := true, apart := false, laid := [("velarium/canvas.checks", laid_velarium_canvas_checks)], narrowed := true }
def CanvasLinesUptoSaid : Prop := canvasLinesUptoRow.holds Tryz.pinned (OpenSpec.upto canvasLinesSpec)

/-- 'velariumlaw02.CanvasThings', WHERE WHAT IT READS IS OF BULK AT MOST 1048576: true; the input reads as it did. -/
def canvasThingsUptoRow : OpenClaim := { program := "ytokdmiiejfmomaagreatdoor", sum := "2d5c86d44a4483fa4ea821afd34daa47aa47bb3c42a6f49f58cc3259560efc38", func := "velarium/velariumlaw02.CanvasThings", spec := "canvasThings", unfollowed := true, recurses := true, named := ["velarium/canvas.checks"], plainKeys := false, leaving := true, apart := false, laid := [("velarium/canvas.checks", laid_velarium_canvas_checks)], narrowed := true }
def CanvasThingsUptoSaid : Prop := canvasThingsUptoRow.holds Tryz.pinned (OpenSpec.upto canvasThingsSpec)

/-- 'velariumlaw02.CanvasExact', WHERE WHAT IT READS IS OF BULK AT MOST 1048576: true; the input reads as it did. -/
def canvasExactUptoRow : OpenClaim := { program := "ytokdmiiejfmomaagreatdoor", sum := "2d5c86d44a4483fa4ea821afd34daa47aa47bb3c42a6f49f58cc3259560efc38", func := "velarium/velariumlaw02.CanvasExact", spec := "canvasExact", unfollowed := true, recurses := true, named := ["velarium/canvas.checks"], plainKeys := false, leaving := true, apart := false, laid := [("velarium/canvas.checks", laid_velarium_canvas_checks)], narrowed := true }
def CanvasExactUptoSaid : Prop := canvasExactUptoRow.holds Tryz.pinned (OpenSpec.upto canvasExactSpec)

/-- 'velariumlaw02.CanvasNearest', WHERE WHAT IT READS IS OF BULK AT MOST 1048576: true; the input reads as it did. -/
def canvasNearestUptoRow : OpenClaim := { program := "ytokdmiiejfmomaagreatdoor", sum := "2d5c86d44a4483fa4ea821afd34daa47aa47bb3c42a6f49f58cc3259560efc38", func := "velarium/velariumlaw02.CanvasNearest", spec := "canvasNearest", unfollowed := true, recurses := true, named := ["velarium/canvas.checks"], plainKeys := false, leaving := true, apart := false, laid := [("velarium/canvas.checks", laid_velarium_canvas_checks)], narrowed := true }
def CanvasNearestUptoSaid : Prop := canvasNearestUptoRow.holds Tryz.pinned (OpenSpec.upto canvasNearestSpec)

/-- 'velariumlaw02.CanvasParted', WHERE WHAT IT READS IS OF BULK AT MOST 1048576: true; the input reads as it did. -/
def canvasPartedUptoRow : OpenClaim := { program := "ytokdmiiejfmomaagreatdoor", sum := "2d5c86d44a4483fa4ea821afd34daa47aa47bb3c42a6f49f58cc3259560efc38", func := "velarium/velariumlaw02.CanvasParted", spec := "canvasParted", unfollowed := true, recurses := true, named := ["velarium/canvas.checks"], plainKeys := false, leaving := true, apart := false, laid := [("velarium/canvas.checks", laid_velarium_canvas_checks)], narrowed := true }
def CanvasPartedUptoSaid : Prop := canvasPartedUptoRow.holds Tryz.pinned (OpenSpec.upto canvasPartedSpec)

/-- 'velariumlaw02.CanvasAlike', WHERE WHAT IT READS IS OF BULK AT MOST 1048576: true; the input reads as it did. -/
def canvasAlikeUptoRow : OpenClaim := { program := "ytokdmiiejfmomaagreatdoor", sum := "2d5c86d44a4483fa4ea821afd34daa47aa47bb3c42a6f49f58cc3259560efc38", func := "velarium/velariumlaw02.CanvasAlike", spec := "canvasAlike", unfollowed := true, recurses := true, named := ["velarium/canvas.checks"], plainKeys := false, leaving := true, apart := false, laid := [("velarium/canvas.checks", laid_velarium_canvas_checks)], narrowed := true }
def CanvasAlikeUptoSaid : Prop := canvasAlikeUptoRow.holds Tryz.pinned (OpenSpec.upto canvasAlikeSpec)

/-- 'velariumlaw02.CanvasEnds', WHERE WHAT IT READS IS OF BULK AT MOST 1048576: true; the input reads as it did. -/
def canvasEndsUptoRow : OpenClaim := { program := "ytokdmiiejfmomaagreatdoor", sum := "2d5c86d44a4483fa4ea821afd34daa47aa47bb3c42a6f49f58cc3259560efc38", func := "velarium/velariumlaw02.CanvasEnds", spec := "canvasEnds", unfollowed := true, recurses := true, named := ["velarium/canvas.checks"], plainKeys := false, leaving := true, apart := false, laid := [("velarium/canvas.checks", laid_velarium_canvas_checks)], narrowed := true }
def CanvasEndsUptoSaid : Prop := canvasEndsUptoRow.holds Tryz.pinned (OpenSpec.upto canvasEndsSpec)

/-- 'velariumlaw02.CanvasUpright', WHERE WHAT IT READS IS OF BULK AT MOST 1048576: true; the input reads as it did. -/
def canvasUprightUptoRow : OpenClaim := { program := "ytokdmiiejfmomaagreatdoor", sum := "2d5c86d44a4483fa4ea821afd34daa47aa47bb3c42a6f49f58cc3259560efc38", func := "velarium/velariumlaw02.CanvasUpright", spec := "canvasUpright", unfollowed := true, recurses := true, named := ["velarium/canvas.checks"], plainKeys := false, leaving := true, apart := false, laid := [("velarium/canvas.checks", laid_velarium_canvas_checks)], narrowed := true }
def CanvasUprightUptoSaid : Prop := canvasUprightUptoRow.holds Tryz.pinned (OpenSpec.upto canvasUprightSpec)

/-- 'velariumlaw02.CanvasKept', WHERE WHAT IT READS IS OF BULK AT MOST 1048576: true; the input reads as it did. -/
def canvasKeptUptoRow : OpenClaim := { program := "ytokdmiiejfmomaagreatdoor", sum := "2d5c86d44a4483fa4ea821afd34daa47aa47bb3c42a6f49f58cc3259560efc38", func := "velarium/velariumlaw02.CanvasKept", spec := "canvasKept", unfollowed := true, recurses := true, named := ["velarium/canvas.checks"], plainKeys := false, leaving := true, apart := false, laid := [("velarium/canvas.checks", laid_velarium_canvas_checks)], narrowed := true }
def CanvasKeptUptoSaid : Prop := canvasKeptUptoRow.holds Tryz.pinned (OpenSpec.upto canvasKeptSpec)

/-- 'velariumlaw02.CanvasNeeded', WHERE WHAT IT READS IS OF BULK AT MOST 1048576: true; the input reads as it did. -/
def canvasNeededUptoRow : OpenClaim := { program := "ytokdmiiejfmomaagreatdoor", sum := "2d5c86d44a4483fa4ea821afd34daa47aa47bb3c42a6f49f58cc3259560efc38", func := "velarium/velariumlaw02.CanvasNeeded", spec := "canvasNeeded", unfollowed := true, recurses := true, named := ["velarium/canvas.checks"], plainKeys := false, leaving := true, apart := false, laid := [("velarium/canvas.checks", laid_velarium_canvas_checks)], narrowed := true }
def CanvasNeededUptoSaid : Prop := canvasNeededUptoRow.holds Tryz.pinned (OpenSpec.upto canvasNeededSpec)

/-- 'velariumlaw02.CanvasClashes', WHERE WHAT IT READS IS OF BULK AT MOST 1048576: true; the input reads as it did. -/
def canvasClashesUptoRow : OpenClaim := { program := "ytokdmiiejfmomaagreatdoor", sum := "2d5c86d44a4483fa4ea821afd34daa47aa47bb3c42a6f49f58cc3259560efc38", func := "velarium/velariumlaw02.CanvasClashes", spec := "canvasClashes", unfollowed := true, recurses := true, named := ["velarium/canvas.checks"], plainKeys := false, leaving := true, apart := false, laid := [("velarium/canvas.checks", laid_velarium_canvas_checks)], narrowed := true }
def CanvasClashesUptoSaid : Prop := canvasClashesUptoRow.holds Tryz.pinned (OpenSpec.upto canvasClashesSpec)

/-- 'velariumlaw02.CanvasAsked', WHERE WHAT IT READS IS OF BULK AT MOST 1048576: true; the input reads as it did. -/
def canvasAskedUptoRow : OpenClaim := { program := "ytokdmiiejfmomaagreatdoor", sum := "2d5c86d44a4483fa4ea821afd34daa47aa47bb3c42a6f49f58cc3259560efc38", func := "velarium/velariumlaw02.CanvasAsked", spec := "canvasAsked", unfollowed := true, recurses := true, named := ["velarium/canvas.checks"], plainKeys := false, leaving := true, apart := false, laid := [("velarium/canvas.checks", laid_velarium_canvas_checks)], narrowed := true }
def CanvasAskedUptoSaid : Prop := canvasAskedUptoRow.holds Tryz.pinned (OpenSpec.upto canvasAskedSpec)

/-- 'velariumlaw02.CanvasAnyOrder', WHERE WHAT IT READS IS OF BULK AT MOST 1048576: true; the input reads as it did. -/
def canvasAnyOrderUptoRow : OpenClaim := { program := "ytokdmiiejfmomaagreatdoor", sum := "2d5c86d44a4483fa4ea821afd34daa47aa47bb3c42a6f49f58cc3259560efc38", func := "velarium/velariumlaw02.CanvasAnyOrder", spec := "canvasAnyOrder", unfollowed := true, recurses := true, named := ["velarium/canvas.checks"], plainKeys := false, leaving := true, apart := false, laid := [("velarium/canvas.checks", laid_velarium_canvas_checks)], narrowed := true }
def CanvasAnyOrderUptoSaid : Prop := canvasAnyOrderUptoRow.holds Tryz.pinned (OpenSpec.upto canvasAnyOrderSpec)

/-- 'velariumlaw02.CanvasStates', WHERE WHAT IT READS IS OF BULK AT MOST 1048576: true; the input reads as it did. -/
def canvasStatesUptoRow : OpenClaim := { program := "ytokdmiiejfmomaagreatdoor", sum := "2d5c86d44a4483fa4ea821afd34daa47aa47bb3c42a6f49f58cc3259560efc38", func := "velarium/velariumlaw02.CanvasStates", spec := "canvasStates", unfollowed := true, recurses := true, named := ["velarium/canvas.checks"], plainKeys := false, leaving := true, apart := false, laid := [("velarium/canvas.checks", laid_velarium_canvas_checks)], narrowed := true }
def CanvasStatesUptoSaid : Prop := canvasStatesUptoRow.holds Tryz.pinned (OpenSpec.upto canvasStatesSpec)

/-- 'velariumlaw02.CanvasReal', WHERE WHAT IT READS IS OF BULK AT MOST 1048576: true; the input reads as it did. -/
def canvasRealUptoRow : OpenClaim := { program := "ytokdmiiejfmomaagreatdoor", sum := "2d5c86d44a4483fa4ea821afd34daa47aa47bb3c42a6f49f58cc3259560efc38", func := "velarium/velariumlaw02.CanvasReal", spec := "canvasReal", unfollowed := true, recurses := true, named := ["velarium/canvas.checks"], plainKeys := false, leaving := true, apart := false, laid := [("velarium/canvas.checks", laid_velarium_canvas_checks)], narrowed := true }
def CanvasRealUptoSaid : Prop := canvasRealUptoRow.holds Tryz.pinned (OpenSpec.upto canvasRealSpec)

/-- 'velariumlaw02.CanvasNews', WHERE WHAT IT READS IS OF BULK AT MOST 1048576: true; the input reads as it did. -/
def canvasNewsUptoRow : OpenClaim := { program := "ytokdmiiejfmomaagreatdoor", sum := "2d5c86d44a4483fa4ea821afd34daa47aa47bb3c42a6f49f58cc3259560efc38", func := "velarium/velariumlaw02.CanvasNews", spec := "canvasNews", unfollowed := true, recurses := true, named := ["velarium/canvas.checks"], plainKeys := false, leaving := true, apart := false, laid := [("velarium/canvas.checks", laid_velarium_canvas_checks)], narrowed := true }
def CanvasNewsUptoSaid : Prop := canvasNewsUptoRow.holds Tryz.pinned (OpenSpec.upto canvasNewsSpec)

/-- 'velariumlaw02.CanvasLearnt', WHERE WHAT IT READS IS OF BULK AT MOST 1048576: true; the input reads as it did. -/
def canvasLearntUptoRow : OpenClaim := { program := "ytokdmiiejfmomaagreatdoor", sum := "2d5c86d44a4483fa4ea821afd34daa47aa47bb3c42a6f49f58cc3259560efc38", func := "velarium/velariumlaw02.CanvasLearnt", spec := "canvasLearnt", unfollowed := true, recurses := true, named := ["velarium/canvas.checks"], plainKeys := false, leaving := true, apart := false, laid := [("velarium/canvas.checks", laid_velarium_canvas_checks)], narrowed := true }
def CanvasLearntUptoSaid : Prop := canvasLearntUptoRow.holds Tryz.pinned (OpenSpec.upto canvasLearntSpec)

/-- 'velariumlaw02.CanvasReached', WHERE WHAT IT READS IS OF BULK AT MOST 1048576: true; the input reads as it did. -/
def canvasReachedUptoRow : OpenClaim := { program := "ytokdmiiejfmomaagreatdoor", sum := "2d5c86d44a4483fa4ea821afd34daa47aa47bb3c42a6f49f58cc3259560efc38", func := "velarium/velariumlaw02.CanvasReached", spec := "canvasReached", unfollowed := true, recurses := true, named := ["velarium/canvas.checks"], plainKeys := false, leaving := true, apart := false, laid := [("velarium/canvas.checks", laid_velarium_canvas_checks)], narrowed := true }
def CanvasReachedUptoSaid : Prop := canvasReachedUptoRow.holds Tryz.pinned (OpenSpec.upto canvasReachedSpec)

end Rows
end Go.Proofs.YtokdmiiejfmomaaGreatDoor
