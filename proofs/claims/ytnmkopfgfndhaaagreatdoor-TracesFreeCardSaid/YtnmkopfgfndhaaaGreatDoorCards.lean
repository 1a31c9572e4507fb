/-
  DERIVED. GIVEN WITH THE SEED: THE CARDS: each row of YtnmkopfgfndhaaaGreatDoorRows.lean that lists a variable, with what it lists TIED to the program's text (the seventh form; the later family's looks); each row that meets fmt, with fmt's text TOLD by the authors' own Lean function (tested against real Go, not proved from fmt's source: count such statements apart). THE CARD IS WHAT COUNTS. Prove the row's statement (the work); the ties are given (YtnmkopfgfndhaaaGreatDoorTie.lean); close each card by the builder's one call (the guide's Derived/Test/ToyasCard.lean, 'card_holds'). Laid BY PROGRAM, IN A SANDBOX (cutbox-door.mjs). By AI agents, Wed Nov 11 2026. No macro, syntax, notation, axiom, sorry.
-/
import Derived.Test.YtnmkopfgfndhaaaGreatDoorRows
import GoSem.ClaimSeven
namespace Go.Proofs.YtnmkopfgfndhaaaGreatDoor
namespace Rows

/-- THE TIED CARD OF 'ganseylaw34.TracesFree'. -/
def tracesFreeCard : Claim7 := { stood := { row := tracesFreeRow, standIns := [], harness := (true, "6409f25d3ca38c6df856219acd3e5c54c5c228494742356ae4d01fdec05838e0"), looks := false }, kinds := [], alts := [], laidByText := true, laidKinds := [.data], laidTests := true, laidLooks := .later }
def TracesFreeCardSaid : Prop := Claim7.holds Tryz.pinned (.plain (OpenSpec.ofChange tracesFreeSpec)) tracesFreeCard

/-- THE TIED CARD OF 'ganseylaw34.TracesCompare'. -/
def tracesCompareCard : Claim7 := { stood := { row := tracesCompareRow, standIns := [], harness := (true, "6409f25d3ca38c6df856219acd3e5c54c5c228494742356ae4d01fdec05838e0"), looks := false }, kinds := [], alts := [], laidByText := true, laidKinds := [.data], laidTests := true, laidLooks := .later }
def TracesCompareCardSaid : Prop := Claim7.holds Tryz.pinned (.plain (OpenSpec.ofChange tracesCompareSpec)) tracesCompareCard

/-- THE SECOND FORM's CARD OF 'ganseylaw34.TracesFree'. -/
def tracesFreeUptoCard : Claim7 := { stood := { row := tracesFreeUptoRow, standIns := [], harness := (true, "6409f25d3ca38c6df856219acd3e5c54c5c228494742356ae4d01fdec05838e0"), looks := false }, kinds := [], alts := [], laidByText := true, laidKinds := [.data], laidTests := true, laidLooks := .later }
def TracesFreeUptoCardSaid : Prop := Claim7.holds Tryz.pinned (.plain (OpenSpec.upto tracesFreeSpec)) tracesFreeUptoCard

/-- THE SECOND FORM's CARD OF 'ganseylaw34.TracesCompare'. -/
def tracesCompareUptoCard : Claim7 := { stood := { row := tracesCompareUptoRow, standIns := [], harness := (true, "6409f25d3ca38c6df856219acd3e5c54c5c228494742356ae4d01fdec05838e0"), looks := false }, kinds := [], alts := [], laidByText := true, laidKinds := [.data], laidTests := true, laidLooks := .later }
def TracesCompareUptoCardSaid : Prop := Claim7.holds Tryz.pinned (.plain (OpenSpec.upto tracesCompareSpec)) tracesCompareUptoCard
end Rows
end Go.Proofs.YtnmkopfgfndhaaaGreatDoor
