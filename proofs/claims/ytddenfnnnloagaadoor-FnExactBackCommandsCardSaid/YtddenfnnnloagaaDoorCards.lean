/-
  DERIVED. GIVEN WITH THE SEED: THE CARDS: each row of YtddenfnnnloagaaDoorRows.lean that lists a variable, with what it lists TIED to the program's text (the seventh form; the later family's looks); each row that meets fmt, with fmt's text TOLD by the authors' own Lean function (tested against real Go, not proved from fmt's source: count such statements apart). THE CARD IS WHAT COUNTS. Prove the row's statement (the work); the ties are given (YtddenfnnnloagaaDoorTie.lean); close each card by the builder's one call (the guide's Derived/Test/ToyasCard.lean, 'card_holds'). Laid BY PROGRAM, IN A SANDBOX (cutbox-door.mjs). By AI agents, Wed Nov 11 2026. No macro, syntax, notation, axiom, sorry.
-/
import Derived.Test.YtddenfnnnloagaaDoorRows
import GoSem.ClaimSeven
namespace Go.Proofs.YtddenfnnnloagaaDoor
namespace Rows

/-- THE TIED CARD OF 'laws.FnExactBestCommand'. -/
def fnExactBestCommandCard : Claim7 := { stood := { row := fnExactBestCommandRow, standIns := [], harness := (true, "9df33b694be121f8b0b6619e408316ef42e5c3abd0246d2343dceddeba6a25a2"), looks := true }, kinds := [], alts := [], laidByText := true, laidKinds := [.data, .pinned], laidTests := true, laidLooks := .later }
def FnExactBestCommandCardSaid : Prop := Claim7.holds Tryd.pinned (.plain (OpenSpec.ofChange fnExactBestCommandSpec)) fnExactBestCommandCard

/-- THE TIED CARD OF 'laws.FnExactAreMistakes'. -/
def fnExactAreMistakesCard : Claim7 := { stood := { row := fnExactAreMistakesRow, standIns := [], harness := (true, "9df33b694be121f8b0b6619e408316ef42e5c3abd0246d2343dceddeba6a25a2"), looks := true }, kinds := [], alts := [], laidByText := true, laidKinds := [.data, .pinned], laidTests := true, laidLooks := .later }
def FnExactAreMistakesCardSaid : Prop := Claim7.holds Tryd.pinned (.plain (OpenSpec.ofChange fnExactAreMistakesSpec)) fnExactAreMistakesCard

/-- THE TIED CARD OF 'laws.FnExactMirrorCommands'. -/
def fnExactMirrorCommandsCard : Claim7 := { stood := { row := fnExactMirrorCommandsRow, standIns := [], harness := (true, "9df33b694be121f8b0b6619e408316ef42e5c3abd0246d2343dceddeba6a25a2"), looks := true }, kinds := [], alts := [], laidByText := true, laidKinds := [.data, .pinned], laidTests := true, laidLooks := .later }
def FnExactMirrorCommandsCardSaid : Prop := Claim7.holds Tryd.pinned (.plain (OpenSpec.ofChange fnExactMirrorCommandsSpec)) fnExactMirrorCommandsCard

/-- THE TIED CARD OF 'laws.FnExactBackCommands'. -/
def fnExactBackCommandsCard : Claim7 := { stood := { row := fnExactBackCommandsRow, standIns := [], harness := (true, "9df33b694be121f8b0b6619e408316ef42e5c3abd0246d2343dceddeba6a25a2"), looks := true }, kinds := [], alts := [], laidByText := true, laidKinds := [.data, .pinned], laidTests := true, laidLooks := .later }
def FnExactBackCommandsCardSaid : Prop := Claim7.holds Tryd.pinned (.plain (OpenSpec.ofChange fnExactBackCommandsSpec)) fnExactBackCommandsCard

/-- THE TIED CARD OF 'laws.FnExactFacingWithMistakes'. -/
def fnExactFacingWithMistakesCard : Claim7 := { stood := { row := fnExactFacingWithMistakesRow, standIns := [], harness := (true, "9df33b694be121f8b0b6619e408316ef42e5c3abd0246d2343dceddeba6a25a2"), looks := true }, kinds := [], alts := [], laidByText := true, laidKinds := [.data, .pinned], laidTests := true, laidLooks := .later }
def FnExactFacingWithMistakesCardSaid : Prop := Claim7.holds Tryd.pinned (.plain (OpenSpec.ofChange fnExactFacingWithMistakesSpec)) fnExactFacingWithMistakesCard

/-- THE TIED CARD OF 'laws.FnExactCorrectionsOf'. -/
def fnExactCorrectionsOfCard : Claim7 := { stood := { row := fnExactCorrectionsOfRow, standIns := [], harness := (true, "9df33b694be121f8b0b6619e408316ef42e5c3abd0246d2343dceddeba6a25a2"), looks := true }, kinds := [], alts := [], laidByText := true, laidKinds := [.data, .pinned], laidTests := true, laidLooks := .later }
def FnExactCorrectionsOfCardSaid : Prop := Claim7.holds Tryd.pinned (.plain (OpenSpec.ofChange fnExactCorrectionsOfSpec)) fnExactCorrectionsOfCard

/-- THE TIED CARD OF 'laws.FnExactWrongSoldiers'. -/
def fnExactWrongSoldiersCard : Claim7 := { stood := { row := fnExactWrongSoldiersRow, standIns := [], harness := (true, "9df33b694be121f8b0b6619e408316ef42e5c3abd0246d2343dceddeba6a25a2"), looks := true }, kinds := [], alts := [], laidByText := true, laidKinds := [.data, .pinned], laidTests := true, laidLooks := .later }
def FnExactWrongSoldiersCardSaid : Prop := Claim7.holds Tryd.pinned (.plain (OpenSpec.ofChange fnExactWrongSoldiersSpec)) fnExactWrongSoldiersCard

/-- THE SECOND FORM's CARD OF 'laws.FnExactBestCommand'. -/
def fnExactBestCommandUptoCard : Claim7 := { stood := { row := fnExactBestCommandUptoRow, standIns := [], harness := (true, "9df33b694be121f8b0b6619e408316ef42e5c3abd0246d2343dceddeba6a25a2"), looks := true }, kinds := [], alts := [], laidByText := true, laidKinds := [.data, .pinned], laidTests := true, laidLooks := .later }
def FnExactBestCommandUptoCardSaid : Prop := Claim7.holds Tryd.pinned (.plain (OpenSpec.upto fnExactBestCommandSpec)) fnExactBestCommandUptoCard

/-- THE SECOND FORM's CARD OF 'laws.FnExactAreMistakes'. -/
def fnExactAreMistakesUptoCard : Claim7 := { stood := { row := fnExactAreMistakesUptoRow, standIns := [], harness := (true, "9df33b694be121f8b0b6619e408316ef42e5c3abd0246d2343dceddeba6a25a2"), looks := true }, kinds := [], alts := [], laidByText := true, laidKinds := [.data, .pinned], laidTests := true, laidLooks := .later }
def FnExactAreMistakesUptoCardSaid : Prop := Claim7.holds Tryd.pinned (.plain (OpenSpec.upto fnExactAreMistakesSpec)) fnExactAreMistakesUptoCard

/-- THE SECOND FORM's CARD OF 'laws.FnExactMirrorCommands'. -/
def fnExactMirrorCommandsUptoCard : Claim7 := { stood := { row := fnExactMirrorCommandsUptoRow, standIns := [], harness := (true, "9df33b694be121f8b0b6619e408316ef42e5c3abd0246d2343dceddeba6a25a2"), looks := true }, kinds := [], alts := [], laidByText := true, laidKinds := [.data, .pinned], laidTests := true, laidLooks := .later }
def FnExactMirrorCommandsUptoCardSaid : Prop := Claim7.holds Tryd.pinned (.plain (OpenSpec.upto fnExactMirrorCommandsSpec)) fnExactMirrorCommandsUptoCard

/-- THE SECOND FORM's CARD OF 'laws.FnExactBackCommands'. -/
def fnExactBackCommandsUptoCard : Claim7 := { stood := { row := fnExactBackCommandsUptoRow, standIns := [], harness := (true, "9df33b694be121f8b0b6619e408316ef42e5c3abd0246d2343dceddeba6a25a2"), looks := true }, kinds := [], alts := [], laidByText := true, laidKinds := [.data, .pinned], laidTests := true, laidLooks := .later }
def FnExactBackCommandsUptoCardSaid : Prop := Claim7.holds Tryd.pinned (.plain (OpenSpec.upto fnExactBackCommandsSpec)) fnExactBackCommandsUptoCard

/-- THE SECOND FORM's CARD OF 'laws.FnExactFacingWithMistakes'. -/
def fnExactFacingWithMistakesUptoCard : Claim7 := { stood := { row := fnExactFacingWithMistakesUptoRow, standIns := [], harness := (true, "9df33b694be121f8b0b6619e408316ef42e5c3abd0246d2343dceddeba6a25a2"), looks := true }, kinds := [], alts := [], laidByText := true, laidKinds := [.data, .pinned], laidTests := true, laidLooks := .later }
def FnExactFacingWithMistakesUptoCardSaid : Prop := Claim7.holds Tryd.pinned (.plain (OpenSpec.upto fnExactFacingWithMistakesSpec)) fnExactFacingWithMistakesUptoCard

/-- THE SECOND FORM's CARD OF 'laws.FnExactCorrectionsOf'. -/
def fnExactCorrectionsOfUptoCard : Claim7 := { stood := { row := fnExactCorrectionsOfUptoRow, standIns := [], harness := (true, "9df33b694be121f8b0b6619e408316ef42e5c3abd0246d2343dceddeba6a25a2"), looks := true }, kinds := [], alts := [], laidByText := true, laidKinds := [.data, .pinned], laidTests := true, laidLooks := .later }
def FnExactCorrectionsOfUptoCardSaid : Prop := Claim7.holds Tryd.pinned (.plain (OpenSpec.upto fnExactCorrectionsOfSpec)) fnExactCorrectionsOfUptoCard

/-- THE SECOND FORM's CARD OF 'laws.FnExactWrongSoldiers'. -/
def fnExactWrongSoldiersUptoCard : Claim7 := { stood := { row := fnExactWrongSoldiersUptoRow, standIns := [], harness := (true, "9df33b694be121f8b0b6619e408316ef42e5c3abd0246d2343dceddeba6a25a2"), looks := true }, kinds := [], alts := [], laidByText := true, laidKinds := [.data, .pinned], laidTests := true, laidLooks := .later }
def FnExactWrongSoldiersUptoCardSaid : Prop := Claim7.holds Tryd.pinned (.plain (OpenSpec.upto fnExactWrongSoldiersSpec)) fnExactWrongSoldiersUptoCard
end Rows
end Go.Proofs.YtddenfnnnloagaaDoor
