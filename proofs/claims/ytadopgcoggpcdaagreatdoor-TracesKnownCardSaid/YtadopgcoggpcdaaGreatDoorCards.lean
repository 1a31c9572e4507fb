/-
  DERIVED. GIVEN WITH THE SEED: THE CARDS: each row of YtadopgcoggpcdaaGreatDoorRows.lean that lists a variable, with what it lists TIED to the program's text (the seventh form; the later family's looks); each row that meets fmt, with fmt's text TOLD by the authors' own Lean function (tested against real Go, not proved from fmt's source: count such statements apart). THE CARD IS WHAT COUNTS. Prove the row's statement (the work); the ties are given (YtadopgcoggpcdaaGreatDoorTie.lean); close each card by the builder's one call (the guide's Derived/Test/ToyasCard.lean, 'card_holds'). Laid BY PROGRAM, IN A SANDBOX (cutbox-door.mjs). By AI agents, Wed Nov 11 2026. No macro, syntax, notation, axiom, sorry.
-/
import Derived.Test.YtadopgcoggpcdaaGreatDoorRows
import GoSem.ClaimSeven
namespace Go.Proofs.YtadopgcoggpcdaaGreatDoor
namespace Rows

/-- THE TIED CARD OF 'ganseylaw34.TracesKnown'. -/
def tracesKnownCard : Claim7 := { stood := { row := tracesKnownRow, standIns := [], harness := (true, "162922ed626eb0a9df6f57003d679850ceab6e957779138dff061ee68b281988"), looks := false }, kinds := [], alts := [], laidByText := true, laidKinds := [.data], laidTests := true, laidLooks := .later }
def TracesKnownCardSaid : Prop := Claim7.holds Tryz.pinned (.plain (OpenSpec.ofChange tracesKnownSpec)) tracesKnownCard

/-- THE SECOND FORM's CARD OF 'ganseylaw34.TracesKnown'. -/
def tracesKnownUptoCard : Claim7 := { stood := { row := tracesKnownUptoRow, standIns := [], harness := (true, "162922ed626eb0a9df6f57003d679850ceab6e957779138dff061ee68b281988"), looks := false }, kinds := [], alts := [], laidByText := true, laidKinds := [.data], laidTests := true, laidLooks := .later }
def TracesKnownUptoCardSaid : Prop := Claim7.holds Tryz.pinned (.plain (OpenSpec.upto tracesKnownSpec)) tracesKnownUptoCard
end Rows
end Go.Proofs.YtadopgcoggpcdaaGreatDoor
