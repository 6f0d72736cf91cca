/-
  DERIVED. GIVEN WITH THE SEED: THE CARDS: each row of YtcpnlodkmkfplaaGreatDoorRows.lean that lists a variable, with what it lists TIED to the program's text (the seventh form; the later family's looks); each row that meets fmt, with fmt's text TOLD by the authors' own Lean function (tested against real Go, not proved from fmt's source: count such statements apart). THE CARD IS WHAT COUNTS. Prove the row's statement (the work); the ties are given (YtcpnlodkmkfplaaGreatDoorTie.lean); close each card by the builder's one call (the guide's Derived/Test/ToyasCard.lean, 'card_holds'). Laid BY PROGRAM, IN A SANDBOX (cutbox-door.mjs). By AI agents, Wed Nov 11 2026. No macro, syntax, notation, axiom, sorry.
-/
import Derived.Test.YtcpnlodkmkfplaaGreatDoorRows
import GoSem.ClaimSeven
namespace Go.Proofs.YtcpnlodkmkfplaaGreatDoor
namespace Rows

/-- THE TIED CARD OF 'laws.FnExactFlush'. -/
def fnExactFlushCard : Claim7 := { stood := { row := fnExactFlushRow, standIns := [], harness := (true, "519186e7b6d5c76881cdc02540f2bf6a1d5bdcfe8883cd8906e5a41617715c50"), looks := true }, kinds := [], alts := [], laidByText := true, laidKinds := [.data, .data, .data], laidTests := true, laidLooks := .later }
def FnExactFlushCardSaid : Prop := Claim7.holds Tryz.pinned (.plain (OpenSpec.ofChange fnExactFlushSpec)) fnExactFlushCard

/-- THE TIED CARD OF 'laws.FnExactPut'. -/
def fnExactPutCard : Claim7 := { stood := { row := fnExactPutRow, standIns := [], harness := (true, "519186e7b6d5c76881cdc02540f2bf6a1d5bdcfe8883cd8906e5a41617715c50"), looks := true }, kinds := [], alts := [], laidByText := true, laidKinds := [.data, .data, .data], laidTests := true, laidLooks := .later }
def FnExactPutCardSaid : Prop := Claim7.holds Tryz.pinned (.plain (OpenSpec.ofChange fnExactPutSpec)) fnExactPutCard

/-- THE TIED CARD OF 'laws.FnDepot'. -/
def fnDepotCard : Claim7 := { stood := { row := fnDepotRow, standIns := [], harness := (true, "519186e7b6d5c76881cdc02540f2bf6a1d5bdcfe8883cd8906e5a41617715c50"), looks := true }, kinds := [], alts := [], laidByText := true, laidKinds := [.data, .data, .data, .sentinel, .sentinel], laidTests := true, laidLooks := .later }
def FnDepotCardSaid : Prop := Claim7.holds Tryz.pinned (.plain (OpenSpec.ofChange fnDepotSpec)) fnDepotCard

/-- THE TIED CARD OF 'laws.FnExactBegin'. -/
def fnExactBeginCard : Claim7 := { stood := { row := fnExactBeginRow, standIns := [], harness := (true, "519186e7b6d5c76881cdc02540f2bf6a1d5bdcfe8883cd8906e5a41617715c50"), looks := true }, kinds := [], alts := [], laidByText := true, laidKinds := [.data, .data, .data, .sentinel, .sentinel], laidTests := true, laidLooks := .later }
def FnExactBeginCardSaid : Prop := Claim7.holds Tryz.pinned (.plain (OpenSpec.ofChange fnExactBeginSpec)) fnExactBeginCard

/-- THE TIED CARD OF 'laws.FnExactCompact'. -/
def fnExactCompactCard : Claim7 := { stood := { row := fnExactCompactRow, standIns := [], harness := (true, "519186e7b6d5c76881cdc02540f2bf6a1d5bdcfe8883cd8906e5a41617715c50"), looks := true }, kinds := [], alts := [], laidByText := true, laidKinds := [.data, .data, .data, .sentinel, .sentinel], laidTests := true, laidLooks := .later }
def FnExactCompactCardSaid : Prop := Claim7.holds Tryz.pinned (.plain (OpenSpec.ofChange fnExactCompactSpec)) fnExactCompactCard

/-- THE TIED CARD OF 'laws.FnBegin'. -/
def fnBeginCard : Claim7 := { stood := { row := fnBeginRow, standIns := [], harness := (true, "519186e7b6d5c76881cdc02540f2bf6a1d5bdcfe8883cd8906e5a41617715c50"), looks := true }, kinds := [], alts := [], laidByText := true, laidKinds := [.data, .data, .data, .sentinel, .sentinel], laidTests := true, laidLooks := .later }
def FnBeginCardSaid : Prop := Claim7.holds Tryz.pinned (.plain (OpenSpec.ofChange fnBeginSpec)) fnBeginCard

/-- THE TIED CARD OF 'laws.FnTorn'. -/
def fnTornCard : Claim7 := { stood := { row := fnTornRow, standIns := [], harness := (true, "519186e7b6d5c76881cdc02540f2bf6a1d5bdcfe8883cd8906e5a41617715c50"), looks := true }, kinds := [], alts := [], laidByText := true, laidKinds := [.data, .data, .data, .sentinel, .sentinel], laidTests := true, laidLooks := .later }
def FnTornCardSaid : Prop := Claim7.holds Tryz.pinned (.plain (OpenSpec.ofChange fnTornSpec)) fnTornCard

/-- THE SECOND FORM's CARD OF 'laws.FnExactFlush'. -/
def fnExactFlushUptoCard : Claim7 := { stood := { row := fnExactFlushUptoRow, standIns := [], harness := (true, "519186e7b6d5c76881cdc02540f2bf6a1d5bdcfe8883cd8906e5a41617715c50"), looks := true }, kinds := [], alts := [], laidByText := true, laidKinds := [.data, .data, .data], laidTests := true, laidLooks := .later }
def FnExactFlushUptoCardSaid : Prop := Claim7.holds Tryz.pinned (.plain (OpenSpec.upto fnExactFlushSpec)) fnExactFlushUptoCard

/-- THE SECOND FORM's CARD OF 'laws.FnExactPut'. -/
def fnExactPutUptoCard : Claim7 := { stood := { row := fnExactPutUptoRow, standIns := [], harness := (true, "519186e7b6d5c76881cdc02540f2bf6a1d5bdcfe8883cd8906e5a41617715c50"), looks := true }, kinds := [], alts := [], laidByText := true, laidKinds := [.data, .data, .data], laidTests := true, laidLooks := .later }
def FnExactPutUptoCardSaid : Prop := Claim7.holds Tryz.pinned (.plain (OpenSpec.upto fnExactPutSpec)) fnExactPutUptoCard

/-- THE SECOND FORM's CARD OF 'laws.FnDepot'. -/
def fnDepotUptoCard : Claim7 := { stood := { row := fnDepotUptoRow, standIns := [], harness := (true, "519186e7b6d5c76881cdc02540f2bf6a1d5bdcfe8883cd8906e5a41617715c50"), looks := true }, kinds := [], alts := [], laidByText := true, laidKinds := [.data, .data, .data, .sentinel, .sentinel], laidTests := true, laidLooks := .later }
def FnDepotUptoCardSaid : Prop := Claim7.holds Tryz.pinned (.plain (OpenSpec.upto fnDepotSpec)) fnDepotUptoCard

/-- THE SECOND FORM's CARD OF 'laws.FnExactBegin'. -/
def fnExactBeginUptoCard : Claim7 := { stood := { row := fnExactBeginUptoRow, standIns := [], harness := (true, "519186e7b6d5c76881cdc02540f2bf6a1d5bdcfe8883cd8906e5a41617715c50"), looks := true }, kinds := [], alts := [], laidByText := true, laidKinds := [.data, .data, .data, .sentinel, .sentinel], laidTests := true, laidLooks := .later }
def FnExactBeginUptoCardSaid : Prop := Claim7.holds Tryz.pinned (.plain (OpenSpec.upto fnExactBeginSpec)) fnExactBeginUptoCard

/-- THE SECOND FORM's CARD OF 'laws.FnExactCompact'. -/
def fnExactCompactUptoCard : Claim7 := { stood := { row := fnExactCompactUptoRow, standIns := [], harness := (true, "519186e7b6d5c76881cdc02540f2bf6a1d5bdcfe8883cd8906e5a41617715c50"), looks := true }, kinds := [], alts := [], laidByText := true, laidKinds := [.data, .data, .data, .sentinel, .sentinel], laidTests := true, laidLooks := .later }
def FnExactCompactUptoCardSaid : Prop := Claim7.holds Tryz.pinned (.plain (OpenSpec.upto fnExactCompactSpec)) fnExactCompactUptoCard

/-- THE SECOND FORM's CARD OF 'laws.FnBegin'. -/
def fnBeginUptoCard : Claim7 := { stood := { row := fnBeginUptoRow, standIns := [], harness := (true, "519186e7b6d5c76881cdc02540f2bf6a1d5bdcfe8883cd8906e5a41617715c50"), looks := true }, kinds := [], alts := [], laidByText := true, laidKinds := [.data, .data, .data, .sentinel, .sentinel], laidTests := true, laidLooks := .later }
def FnBeginUptoCardSaid : Prop := Claim7.holds Tryz.pinned (.plain (OpenSpec.upto fnBeginSpec)) fnBeginUptoCard

/-- THE SECOND FORM's CARD OF 'laws.FnTorn'. -/
def fnTornUptoCard : Claim7 := { stood := { row := fnTornUptoRow, standIns := [], harness := (true, "519186e7b6d5c76881cdc02540f2bf6a1d5bdcfe8883cd8906e5a41617715c50"), looks := true }, kinds := [], alts := [], laidByText := true, laidKinds := [.data, .data, .data, .sentinel, .sentinel], laidTests := true, laidLooks := .later }
def FnTornUptoCardSaid : Prop := Claim7.holds Tryz.pinned (.plain (OpenSpec.upto fnTornSpec)) fnTornUptoCard
end Rows
end Go.Proofs.YtcpnlodkmkfplaaGreatDoor
