/-
  DERIVED. GIVEN WITH THE SEED: THE CARDS: each row of YtpnmmjhhnfacfaaDoorRows.lean that lists a variable, with what it lists TIED to the program's text (the seventh form; the later family's looks); each row that meets fmt, with fmt's text TOLD by the authors' own Lean function (tested against real Go, not proved from fmt's source: count such statements apart). THE CARD IS WHAT COUNTS. Prove the row's statement (the work); the ties are given (YtpnmmjhhnfacfaaDoorTie.lean); close each card by the builder's one call (the guide's Derived/Test/ToyasCard.lean, 'card_holds'). Laid BY PROGRAM, IN A SANDBOX (cutbox-door.mjs). By AI agents, Wed Nov 11 2026. No macro, syntax, notation, axiom, sorry.
-/
import Derived.Test.YtpnmmjhhnfacfaaDoorRows
import GoSem.ClaimSeven
namespace Go.Proofs.YtpnmmjhhnfacfaaDoor
namespace Rows

/-- THE TIED CARD OF 'laws.FnExactWaysToFace'. -/
def fnExactWaysToFaceCard : Claim7 := { stood := { row := fnExactWaysToFaceRow, standIns := [], harness := (true, "404454e69b558ab1f8717d203ef51ea570cfdd9ceac63e3742acc6fb8196b52e"), looks := false }, kinds := [], alts := [], laidByText := true, laidKinds := [.data, .pinned], laidTests := true, laidLooks := .later }
def FnExactWaysToFaceCardSaid : Prop := Claim7.holds Tryd.pinned (.plain (OpenSpec.ofChange fnExactWaysToFaceSpec)) fnExactWaysToFaceCard

/-- THE SECOND FORM's CARD OF 'laws.FnExactWaysToFace'. -/
def fnExactWaysToFaceUptoCard : Claim7 := { stood := { row := fnExactWaysToFaceUptoRow, standIns := [], harness := (true, "404454e69b558ab1f8717d203ef51ea570cfdd9ceac63e3742acc6fb8196b52e"), looks := false }, kinds := [], alts := [], laidByText := true, laidKinds := [.data, .pinned], laidTests := true, laidLooks := .later }
def FnExactWaysToFaceUptoCardSaid : Prop := Claim7.holds Tryd.pinned (.plain (OpenSpec.upto fnExactWaysToFaceSpec)) fnExactWaysToFaceUptoCard
end Rows
end Go.Proofs.YtpnmmjhhnfacfaaDoor
