/-
  DERIVED. GIVEN WITH THE SEED: THE CARDS: each row of YtgdmbhldabeelaaRGreatDoorRows.lean that lists a variable, with what it lists TIED to the program's text (the seventh form; the later family's looks); each row that meets fmt, with fmt's text TOLD by the authors' own Lean function (tested against real Go, not proved from fmt's source: count such statements apart). THE CARD IS WHAT COUNTS. Prove the row's statement (the work); the ties are given (YtgdmbhldabeelaaRGreatDoorTie.lean); close each card by the builder's one call (the guide's Derived/Test/ToyasCard.lean, 'card_holds'). Laid BY PROGRAM, IN A SANDBOX (cutbox-door.mjs). By AI agents, Wed Nov 11 2026. No macro, syntax, notation, axiom, sorry.
-/
import Derived.Test.YtgdmbhldabeelaaRGreatDoorRows
import GoSem.ClaimSeven
namespace Go.Proofs.YtgdmbhldabeelaaRGreatDoor
namespace Rows

/-- THE TIED CARD OF 'laws.FnDrillsTurnOfAll'. -/
def fnDrillsTurnOfAllCard : Claim7 := { stood := { row := fnDrillsTurnOfAllRow, standIns := [], harness := (true, "877f59a9cf7bc2ad148cba6c20d8861b30a5d405b9c5fe89c94e6aa60b4802ee"), looks := true }, kinds := [], alts := [], laidByText := true, laidKinds := [.data, .pinned], laidTests := true, laidLooks := .later }
def FnDrillsTurnOfAllCardSaid : Prop := Claim7.holds Tryz.pinned (.plain (OpenSpec.ofChange fnDrillsTurnOfAllSpec)) fnDrillsTurnOfAllCard

/-- THE TIED CARD OF 'laws.FnDrillsTurn'. -/
def fnDrillsTurnCard : Claim7 := { stood := { row := fnDrillsTurnRow, standIns := [], harness := (true, "877f59a9cf7bc2ad148cba6c20d8861b30a5d405b9c5fe89c94e6aa60b4802ee"), looks := true }, kinds := [], alts := [], laidByText := true, laidKinds := [.data, .pinned], laidTests := true, laidLooks := .later }
def FnDrillsTurnCardSaid : Prop := Claim7.holds Tryz.pinned (.plain (OpenSpec.ofChange fnDrillsTurnSpec)) fnDrillsTurnCard

/-- THE SECOND FORM's CARD OF 'laws.FnDrillsTurnOfAll'. -/
def fnDrillsTurnOfAllUptoCard : Claim7 := { stood := { row := fnDrillsTurnOfAllUptoRow, standIns := [], harness := (true, "877f59a9cf7bc2ad148cba6c20d8861b30a5d405b9c5fe89c94e6aa60b4802ee"), looks := true }, kinds := [], alts := [], laidByText := true, laidKinds := [.data, .pinned], laidTests := true, laidLooks := .later }
def FnDrillsTurnOfAllUptoCardSaid : Prop := Claim7.holds Tryz.pinned (.plain (OpenSpec.upto fnDrillsTurnOfAllSpec)) fnDrillsTurnOfAllUptoCard

/-- THE SECOND FORM's CARD OF 'laws.FnDrillsTurn'. -/
def fnDrillsTurnUptoCard : Claim7 := { stood := { row := fnDrillsTurnUptoRow, standIns := [], harness := (true, "877f59a9cf7bc2ad148cba6c20d8861b30a5d405b9c5fe89c94e6aa60b4802ee"), looks := true }, kinds := [], alts := [], laidByText := true, laidKinds := [.data, .pinned], laidTests := true, laidLooks := .later }
def FnDrillsTurnUptoCardSaid : Prop := Claim7.holds Tryz.pinned (.plain (OpenSpec.upto fnDrillsTurnSpec)) fnDrillsTurnUptoCard
end Rows
end Go.Proofs.YtgdmbhldabeelaaRGreatDoor
