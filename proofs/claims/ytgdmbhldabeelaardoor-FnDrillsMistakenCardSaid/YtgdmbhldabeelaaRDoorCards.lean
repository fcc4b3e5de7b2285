/-
  DERIVED. GIVEN WITH THE SEED: THE CARDS: each row of YtgdmbhldabeelaaRDoorRows.lean that lists a variable, with what it lists TIED to the program's text (the seventh form; the later family's looks); each row that meets fmt, with fmt's text TOLD by the authors' own Lean function (tested against real Go, not proved from fmt's source: count such statements apart). THE CARD IS WHAT COUNTS. Prove the row's statement (the work); the ties are given (YtgdmbhldabeelaaRDoorTie.lean); close each card by the builder's one call (the guide's Derived/Test/ToyasCard.lean, 'card_holds'). Laid BY PROGRAM, IN A SANDBOX (cutbox-door.mjs). By AI agents, Wed Nov 11 2026. No macro, syntax, notation, axiom, sorry.
-/
import Derived.Test.YtgdmbhldabeelaaRDoorRows
import GoSem.ClaimSeven
namespace Go.Proofs.YtgdmbhldabeelaaRDoor
namespace Rows

/-- THE TIED CARD OF 'laws.FnDrillsMistakenOfAll'. -/
def fnDrillsMistakenOfAllCard : Claim7 := { stood := { row := fnDrillsMistakenOfAllRow, standIns := [], harness := (true, "2fdfd0e1339ac44ab624862da1b62e5d2d33c5291cc6bedcef47aa347861eb1b"), looks := false }, kinds := [], alts := [], laidByText := true, laidKinds := [.data, .pinned], laidTests := true, laidLooks := .later }
def FnDrillsMistakenOfAllCardSaid : Prop := Claim7.holds Tryd.pinned (.plain (OpenSpec.ofChange fnDrillsMistakenOfAllSpec)) fnDrillsMistakenOfAllCard

/-- THE TIED CARD OF 'laws.FnDrillsMistaken'. -/
def fnDrillsMistakenCard : Claim7 := { stood := { row := fnDrillsMistakenRow, standIns := [], harness := (true, "2fdfd0e1339ac44ab624862da1b62e5d2d33c5291cc6bedcef47aa347861eb1b"), looks := false }, kinds := [], alts := [], laidByText := true, laidKinds := [.data, .pinned], laidTests := true, laidLooks := .later }
def FnDrillsMistakenCardSaid : Prop := Claim7.holds Tryd.pinned (.plain (OpenSpec.ofChange fnDrillsMistakenSpec)) fnDrillsMistakenCard

/-- THE SECOND FORM's CARD OF 'laws.FnDrillsMistakenOfAll'. -/
def fnDrillsMistakenOfAllUptoCard : Claim7 := { stood := { row := fnDrillsMistakenOfAllUptoRow, standIns := [], harness := (true, "2fdfd0e1339ac44ab624862da1b62e5d2d33c5291cc6bedcef47aa347861eb1b"), looks := false }, kinds := [], alts := [], laidByText := true, laidKinds := [.data, .pinned], laidTests := true, laidLooks := .later }
def FnDrillsMistakenOfAllUptoCardSaid : Prop := Claim7.holds Tryd.pinned (.plain (OpenSpec.upto fnDrillsMistakenOfAllSpec)) fnDrillsMistakenOfAllUptoCard

/-- THE SECOND FORM's CARD OF 'laws.FnDrillsMistaken'. -/
def fnDrillsMistakenUptoCard : Claim7 := { stood := { row := fnDrillsMistakenUptoRow, standIns := [], harness := (true, "2fdfd0e1339ac44ab624862da1b62e5d2d33c5291cc6bedcef47aa347861eb1b"), looks := false }, kinds := [], alts := [], laidByText := true, laidKinds := [.data, .pinned], laidTests := true, laidLooks := .later }
def FnDrillsMistakenUptoCardSaid : Prop := Claim7.holds Tryd.pinned (.plain (OpenSpec.upto fnDrillsMistakenSpec)) fnDrillsMistakenUptoCard
end Rows
end Go.Proofs.YtgdmbhldabeelaaRDoor
