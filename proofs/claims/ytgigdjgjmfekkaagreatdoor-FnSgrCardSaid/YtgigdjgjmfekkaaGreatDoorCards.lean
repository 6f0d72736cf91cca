/-
  DERIVED. GIVEN WITH THE SEED: THE CARDS: each row of YtgigdjgjmfekkaaGreatDoorRows.lean that lists a variable, with what it lists TIED to the program's text (the seventh form; the later family's looks); each row that meets fmt, with fmt's text TOLD by the authors' own Lean function (tested against real Go, not proved from fmt's source: count such statements apart). THE CARD IS WHAT COUNTS. Prove the row's statement (the work); the ties are given (YtgigdjgjmfekkaaGreatDoorTie.lean); close each card by the builder's one call (the guide's Derived/Test/ToyasCard.lean, 'card_holds'). Laid BY PROGRAM, IN A SANDBOX (cutbox-door.mjs). By AI agents, Wed Nov 11 2026. No macro, syntax, notation, axiom, sorry.
-/
import Derived.Test.YtgigdjgjmfekkaaGreatDoorRows
import GoSem.ClaimSeven
namespace Go.Proofs.YtgigdjgjmfekkaaGreatDoor
namespace Rows

/-- THE TIED CARD OF 'laws.FnSgr'. -/
def fnSgrCard : Claim7 := { stood := { row := fnSgrRow, standIns := [], harness := (true, "01d73fcf696463fc3bde50a74be4f1e46d23787a5a783cfe21ac8c1240ade977"), looks := false }, kinds := [], alts := [], laidByText := true, laidKinds := [.data, .data, .data], laidTests := true, laidLooks := .later }
def FnSgrCardSaid : Prop := Claim7.holds Tryz.pinned (.plain (OpenSpec.ofChange fnSgrSpec)) fnSgrCard

/-- THE SECOND FORM's CARD OF 'laws.FnSgr'. -/
def fnSgrUptoCard : Claim7 := { stood := { row := fnSgrUptoRow, standIns := [], harness := (true, "01d73fcf696463fc3bde50a74be4f1e46d23787a5a783cfe21ac8c1240ade977"), looks := false }, kinds := [], alts := [], laidByText := true, laidKinds := [.data, .data, .data], laidTests := true, laidLooks := .later }
def FnSgrUptoCardSaid : Prop := Claim7.holds Tryz.pinned (.plain (OpenSpec.upto fnSgrSpec)) fnSgrUptoCard
end Rows
end Go.Proofs.YtgigdjgjmfekkaaGreatDoor
