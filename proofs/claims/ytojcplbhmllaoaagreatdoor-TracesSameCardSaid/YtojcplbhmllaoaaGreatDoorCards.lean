/-
  DERIVED. GIVEN WITH THE SEED: THE CARDS: each row of YtojcplbhmllaoaaGreatDoorRows.lean that lists a variable, with what it lists TIED to the program's text (the seventh form; the later family's looks); each row that meets fmt, with fmt's text TOLD by the authors' own Lean function (tested against real Go, not proved from fmt's source: count such statements apart). THE CARD IS WHAT COUNTS. Prove the row's statement (the work); the ties are given (YtojcplbhmllaoaaGreatDoorTie.lean); close each card by the builder's one call (the guide's Derived/Test/ToyasCard.lean, 'card_holds'). Laid BY PROGRAM, IN A SANDBOX (cutbox-door.mjs). By AI agents, Wed Nov 11 2026. No macro, syntax, notation, axiom, sorry.
-/
import Derived.Test.YtojcplbhmllaoaaGreatDoorRows
import GoSem.ClaimSeven
namespace Go.Proofs.YtojcplbhmllaoaaGreatDoor
namespace Rows

/-- THE TIED CARD OF 'ganseylaw34.TracesLeast'. -/
def tracesLeastCard : Claim7 := { stood := { row := tracesLeastRow, standIns := [], harness := (true, "61396388eca25126aface54369fd3bdb21e04046f9a37f76923c4c823bcd6757"), looks := false }, kinds := [], alts := [], laidByText := true, laidKinds := [.data], laidTests := true, laidLooks := .later }
def TracesLeastCardSaid : Prop := Claim7.holds Tryz.pinned (.plain (OpenSpec.ofChange tracesLeastSpec)) tracesLeastCard

/-- THE TIED CARD OF 'ganseylaw34.TracesSame'. -/
def tracesSameCard : Claim7 := { stood := { row := tracesSameRow, standIns := [], harness := (true, "61396388eca25126aface54369fd3bdb21e04046f9a37f76923c4c823bcd6757"), looks := false }, kinds := [], alts := [], laidByText := true, laidKinds := [.data], laidTests := true, laidLooks := .later }
def TracesSameCardSaid : Prop := Claim7.holds Tryz.pinned (.plain (OpenSpec.ofChange tracesSameSpec)) tracesSameCard

/-- THE SECOND FORM's CARD OF 'ganseylaw34.TracesLeast'. -/
def tracesLeastUptoCard : Claim7 := { stood := { row := tracesLeastUptoRow, standIns := [], harness := (true, "61396388eca25126aface54369fd3bdb21e04046f9a37f76923c4c823bcd6757"), looks := false }, kinds := [], alts := [], laidByText := true, laidKinds := [.data], laidTests := true, laidLooks := .later }
def TracesLeastUptoCardSaid : Prop := Claim7.holds Tryz.pinned (.plain (OpenSpec.upto tracesLeastSpec)) tracesLeastUptoCard

/-- THE SECOND FORM's CARD OF 'ganseylaw34.TracesSame'. -/
def tracesSameUptoCard : Claim7 := { stood := { row := tracesSameUptoRow, standIns := [], harness := (true, "61396388eca25126aface54369fd3bdb21e04046f9a37f76923c4c823bcd6757"), looks := false }, kinds := [], alts := [], laidByText := true, laidKinds := [.data], laidTests := true, laidLooks := .later }
def TracesSameUptoCardSaid : Prop := Claim7.holds Tryz.pinned (.plain (OpenSpec.upto tracesSameSpec)) tracesSameUptoCard
end Rows
end Go.Proofs.YtojcplbhmllaoaaGreatDoor
