/-
  DERIVED. GIVEN WITH THE SEED: THE CARDS: each row of YtekfpdpmekjmoaaDoorRows.lean that lists a variable, with what it lists TIED to the program's text (the seventh form; the later family's looks); each row that meets fmt, with fmt's text TOLD by the authors' own Lean function (tested against real Go, not proved from fmt's source: count such statements apart). THE CARD IS WHAT COUNTS. Prove the row's statement (the work); the ties are given (YtekfpdpmekjmoaaDoorTie.lean); close each card by the builder's one call (the guide's Derived/Test/ToyasCard.lean, 'card_holds'). Laid BY PROGRAM, IN A SANDBOX (cutbox-door.mjs). By AI agents, Wed Nov 11 2026. No macro, syntax, notation, axiom, sorry.
-/
import Derived.Test.YtekfpdpmekjmoaaDoorRows
import GoSem.ClaimSeven
namespace Go.Proofs.YtekfpdpmekjmoaaDoor
namespace Rows

/-- THE TIED CARD OF 'laws.FnExactPaceOfBeats'. -/
def fnExactPaceOfBeatsCard : Claim7 := { stood := { row := fnExactPaceOfBeatsRow, standIns := [], harness := (true, "c8ce5db4379f07af3b76ba0fc6d31d6629f0d751fbd78face0229dad422e89e2"), looks := false }, kinds := [], alts := [], laidByText := true, laidKinds := [.data, .pinned], laidTests := true, laidLooks := .later }
def FnExactPaceOfBeatsCardSaid : Prop := Claim7.holds Tryd.pinned (.plain (OpenSpec.ofChange fnExactPaceOfBeatsSpec)) fnExactPaceOfBeatsCard

/-- THE TIED CARD OF 'laws.FnExactAreFacing'. -/
def fnExactAreFacingCard : Claim7 := { stood := { row := fnExactAreFacingRow, standIns := [], harness := (true, "c8ce5db4379f07af3b76ba0fc6d31d6629f0d751fbd78face0229dad422e89e2"), looks := false }, kinds := [], alts := [], laidByText := true, laidKinds := [.data, .pinned], laidTests := true, laidLooks := .later }
def FnExactAreFacingCardSaid : Prop := Claim7.holds Tryd.pinned (.plain (OpenSpec.ofChange fnExactAreFacingSpec)) fnExactAreFacingCard

/-- THE TIED CARD OF 'laws.FnExactAreCommands'. -/
def fnExactAreCommandsCard : Claim7 := { stood := { row := fnExactAreCommandsRow, standIns := [], harness := (true, "c8ce5db4379f07af3b76ba0fc6d31d6629f0d751fbd78face0229dad422e89e2"), looks := false }, kinds := [], alts := [], laidByText := true, laidKinds := [.data, .pinned], laidTests := true, laidLooks := .later }
def FnExactAreCommandsCardSaid : Prop := Claim7.holds Tryd.pinned (.plain (OpenSpec.ofChange fnExactAreCommandsSpec)) fnExactAreCommandsCard

/-- THE TIED CARD OF 'laws.FnExactCommandsBetween'. -/
def fnExactCommandsBetweenCard : Claim7 := { stood := { row := fnExactCommandsBetweenRow, standIns := [], harness := (true, "c8ce5db4379f07af3b76ba0fc6d31d6629f0d751fbd78face0229dad422e89e2"), looks := false }, kinds := [], alts := [], laidByText := true, laidKinds := [.data, .pinned], laidTests := true, laidLooks := .later }
def FnExactCommandsBetweenCardSaid : Prop := Claim7.holds Tryd.pinned (.plain (OpenSpec.ofChange fnExactCommandsBetweenSpec)) fnExactCommandsBetweenCard

/-- THE TIED CARD OF 'laws.FnExactNetTurn'. -/
def fnExactNetTurnCard : Claim7 := { stood := { row := fnExactNetTurnRow, standIns := [], harness := (true, "c8ce5db4379f07af3b76ba0fc6d31d6629f0d751fbd78face0229dad422e89e2"), looks := false }, kinds := [], alts := [], laidByText := true, laidKinds := [.data, .pinned], laidTests := true, laidLooks := .later }
def FnExactNetTurnCardSaid : Prop := Claim7.holds Tryd.pinned (.plain (OpenSpec.ofChange fnExactNetTurnSpec)) fnExactNetTurnCard

/-- THE TIED CARD OF 'laws.FnExactShortCommands'. -/
def fnExactShortCommandsCard : Claim7 := { stood := { row := fnExactShortCommandsRow, standIns := [], harness := (true, "c8ce5db4379f07af3b76ba0fc6d31d6629f0d751fbd78face0229dad422e89e2"), looks := false }, kinds := [], alts := [], laidByText := true, laidKinds := [.data, .pinned], laidTests := true, laidLooks := .later }
def FnExactShortCommandsCardSaid : Prop := Claim7.holds Tryd.pinned (.plain (OpenSpec.ofChange fnExactShortCommandsSpec)) fnExactShortCommandsCard

/-- THE TIED CARD OF 'laws.FnExactRepeatsToFront'. -/
def fnExactRepeatsToFrontCard : Claim7 := { stood := { row := fnExactRepeatsToFrontRow, standIns := [], harness := (true, "c8ce5db4379f07af3b76ba0fc6d31d6629f0d751fbd78face0229dad422e89e2"), looks := false }, kinds := [], alts := [], laidByText := true, laidKinds := [.data, .pinned], laidTests := true, laidLooks := .later }
def FnExactRepeatsToFrontCardSaid : Prop := Claim7.holds Tryd.pinned (.plain (OpenSpec.ofChange fnExactRepeatsToFrontSpec)) fnExactRepeatsToFrontCard

/-- THE TIED CARD OF 'laws.FnExactFacingAfter'. -/
def fnExactFacingAfterCard : Claim7 := { stood := { row := fnExactFacingAfterRow, standIns := [], harness := (true, "c8ce5db4379f07af3b76ba0fc6d31d6629f0d751fbd78face0229dad422e89e2"), looks := false }, kinds := [], alts := [], laidByText := true, laidKinds := [.data, .pinned], laidTests := true, laidLooks := .later }
def FnExactFacingAfterCardSaid : Prop := Claim7.holds Tryd.pinned (.plain (OpenSpec.ofChange fnExactFacingAfterSpec)) fnExactFacingAfterCard

/-- THE TIED CARD OF 'laws.FnExactWaysToFace'. -/
def fnExactWaysToFaceCard : Claim7 := { stood := { row := fnExactWaysToFaceRow, standIns := [], harness := (true, "c8ce5db4379f07af3b76ba0fc6d31d6629f0d751fbd78face0229dad422e89e2"), looks := false }, kinds := [], alts := [], laidByText := true, laidKinds := [.data, .pinned], laidTests := true, laidLooks := .later }
def FnExactWaysToFaceCardSaid : Prop := Claim7.holds Tryd.pinned (.plain (OpenSpec.ofChange fnExactWaysToFaceSpec)) fnExactWaysToFaceCard

/-- THE TIED CARD OF 'laws.FnExactMostFaced'. -/
def fnExactMostFacedCard : Claim7 := { stood := { row := fnExactMostFacedRow, standIns := [], harness := (true, "c8ce5db4379f07af3b76ba0fc6d31d6629f0d751fbd78face0229dad422e89e2"), looks := false }, kinds := [], alts := [], laidByText := true, laidKinds := [.data, .pinned], laidTests := true, laidLooks := .later }
def FnExactMostFacedCardSaid : Prop := Claim7.holds Tryd.pinned (.plain (OpenSpec.ofChange fnExactMostFacedSpec)) fnExactMostFacedCard

/-- THE SECOND FORM's CARD OF 'laws.FnExactPaceOfBeats'. -/
def fnExactPaceOfBeatsUptoCard : Claim7 := { stood := { row := fnExactPaceOfBeatsUptoRow, standIns := [], harness := (true, "c8ce5db4379f07af3b76ba0fc6d31d6629f0d751fbd78face0229dad422e89e2"), looks := false }, kinds := [], alts := [], laidByText := true, laidKinds := [.data, .pinned], laidTests := true, laidLooks := .later }
def FnExactPaceOfBeatsUptoCardSaid : Prop := Claim7.holds Tryd.pinned (.plain (OpenSpec.upto fnExactPaceOfBeatsSpec)) fnExactPaceOfBeatsUptoCard

/-- THE SECOND FORM's CARD OF 'laws.FnExactAreFacing'. -/
def fnExactAreFacingUptoCard : Claim7 := { stood := { row := fnExactAreFacingUptoRow, standIns := [], harness := (true, "c8ce5db4379f07af3b76ba0fc6d31d6629f0d751fbd78face0229dad422e89e2"), looks := false }, kinds := [], alts := [], laidByText := true, laidKinds := [.data, .pinned], laidTests := true, laidLooks := .later }
def FnExactAreFacingUptoCardSaid : Prop := Claim7.holds Tryd.pinned (.plain (OpenSpec.upto fnExactAreFacingSpec)) fnExactAreFacingUptoCard

/-- THE SECOND FORM's CARD OF 'laws.FnExactAreCommands'. -/
def fnExactAreCommandsUptoCard : Claim7 := { stood := { row := fnExactAreCommandsUptoRow, standIns := [], harness := (true, "c8ce5db4379f07af3b76ba0fc6d31d6629f0d751fbd78face0229dad422e89e2"), looks := false }, kinds := [], alts := [], laidByText := true, laidKinds := [.data, .pinned], laidTests := true, laidLooks := .later }
def FnExactAreCommandsUptoCardSaid : Prop := Claim7.holds Tryd.pinned (.plain (OpenSpec.upto fnExactAreCommandsSpec)) fnExactAreCommandsUptoCard

/-- THE SECOND FORM's CARD OF 'laws.FnExactCommandsBetween'. -/
def fnExactCommandsBetweenUptoCard : Claim7 := { stood := { row := fnExactCommandsBetweenUptoRow, standIns := [], harness := (true, "c8ce5db4379f07af3b76ba0fc6d31d6629f0d751fbd78face0229dad422e89e2"), looks := false }, kinds := [], alts := [], laidByText := true, laidKinds := [.data, .pinned], laidTests := true, laidLooks := .later }
def FnExactCommandsBetweenUptoCardSaid : Prop := Claim7.holds Tryd.pinned (.plain (OpenSpec.upto fnExactCommandsBetweenSpec)) fnExactCommandsBetweenUptoCard

/-- THE SECOND FORM's CARD OF 'laws.FnExactNetTurn'. -/
def fnExactNetTurnUptoCard : Claim7 := { stood := { row := fnExactNetTurnUptoRow, standIns := [], harness := (true, "c8ce5db4379f07af3b76ba0fc6d31d6629f0d751fbd78face0229dad422e89e2"), looks := false }, kinds := [], alts := [], laidByText := true, laidKinds := [.data, .pinned], laidTests := true, laidLooks := .later }
def FnExactNetTurnUptoCardSaid : Prop := Claim7.holds Tryd.pinned (.plain (OpenSpec.upto fnExactNetTurnSpec)) fnExactNetTurnUptoCard

/-- THE SECOND FORM's CARD OF 'laws.FnExactShortCommands'. -/
def fnExactShortCommandsUptoCard : Claim7 := { stood := { row := fnExactShortCommandsUptoRow, standIns := [], harness := (true, "c8ce5db4379f07af3b76ba0fc6d31d6629f0d751fbd78face0229dad422e89e2"), looks := false }, kinds := [], alts := [], laidByText := true, laidKinds := [.data, .pinned], laidTests := true, laidLooks := .later }
def FnExactShortCommandsUptoCardSaid : Prop := Claim7.holds Tryd.pinned (.plain (OpenSpec.upto fnExactShortCommandsSpec)) fnExactShortCommandsUptoCard

/-- THE SECOND FORM's CARD OF 'laws.FnExactRepeatsToFront'. -/
def fnExactRepeatsToFrontUptoCard : Claim7 := { stood := { row := fnExactRepeatsToFrontUptoRow, standIns := [], harness := (true, "c8ce5db4379f07af3b76ba0fc6d31d6629f0d751fbd78face0229dad422e89e2"), looks := false }, kinds := [], alts := [], laidByText := true, laidKinds := [.data, .pinned], laidTests := true, laidLooks := .later }
def FnExactRepeatsToFrontUptoCardSaid : Prop := Claim7.holds Tryd.pinned (.plain (OpenSpec.upto fnExactRepeatsToFrontSpec)) fnExactRepeatsToFrontUptoCard

/-- THE SECOND FORM's CARD OF 'laws.FnExactFacingAfter'. -/
def fnExactFacingAfterUptoCard : Claim7 := { stood := { row := fnExactFacingAfterUptoRow, standIns := [], harness := (true, "c8ce5db4379f07af3b76ba0fc6d31d6629f0d751fbd78face0229dad422e89e2"), looks := false }, kinds := [], alts := [], laidByText := true, laidKinds := [.data, .pinned], laidTests := true, laidLooks := .later }
def FnExactFacingAfterUptoCardSaid : Prop := Claim7.holds Tryd.pinned (.plain (OpenSpec.upto fnExactFacingAfterSpec)) fnExactFacingAfterUptoCard

/-- THE SECOND FORM's CARD OF 'laws.FnExactWaysToFace'. -/
def fnExactWaysToFaceUptoCard : Claim7 := { stood := { row := fnExactWaysToFaceUptoRow, standIns := [], harness := (true, "c8ce5db4379f07af3b76ba0fc6d31d6629f0d751fbd78face0229dad422e89e2"), looks := false }, kinds := [], alts := [], laidByText := true, laidKinds := [.data, .pinned], laidTests := true, laidLooks := .later }
def FnExactWaysToFaceUptoCardSaid : Prop := Claim7.holds Tryd.pinned (.plain (OpenSpec.upto fnExactWaysToFaceSpec)) fnExactWaysToFaceUptoCard

/-- THE SECOND FORM's CARD OF 'laws.FnExactMostFaced'. -/
def fnExactMostFacedUptoCard : Claim7 := { stood := { row := fnExactMostFacedUptoRow, standIns := [], harness := (true, "c8ce5db4379f07af3b76ba0fc6d31d6629f0d751fbd78face0229dad422e89e2"), looks := false }, kinds := [], alts := [], laidByText := true, laidKinds := [.data, .pinned], laidTests := true, laidLooks := .later }
def FnExactMostFacedUptoCardSaid : Prop := Claim7.holds Tryd.pinned (.plain (OpenSpec.upto fnExactMostFacedSpec)) fnExactMostFacedUptoCard
end Rows
end Go.Proofs.YtekfpdpmekjmoaaDoor
