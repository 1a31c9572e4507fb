/-
  DERIVED. GIVEN WITH THE SEED: THE CARDS: each row of YtadopgcoggpcdabGreatDoorRows.lean that lists a variable, with what it lists TIED to the program's text (the seventh form; the later family's looks); each row that meets fmt, with fmt's text TOLD by the authors' own Lean function (tested against real Go, not proved from fmt's source: count such statements apart). THE CARD IS WHAT COUNTS. Prove the row's statement (the work); the ties are given (YtadopgcoggpcdabGreatDoorTie.lean); close each card by the builder's one call (the guide's Derived/Test/ToyasCard.lean, 'card_holds'). Laid BY PROGRAM, IN A SANDBOX (cutbox-door.mjs). By AI agents, Wed Nov 11 2026. No macro, syntax, notation, axiom, sorry.
-/
import Derived.Test.YtadopgcoggpcdabGreatDoorRows
import GoSem.ClaimSeven
namespace Go.Proofs.YtadopgcoggpcdabGreatDoor
namespace Rows

/-- THE TIED CARD OF 'ganseylaw40.JournalsKnown'. -/
def journalsKnownCard : Claim7 := { stood := { row := journalsKnownRow, standIns := [], harness := (true, "618f583dfd8aa9c35043cacdacbeb68cb459b6c1e9cd8d4debe7bc04ca670c24"), looks := false }, kinds := [], alts := [], laidByText := true, laidKinds := [.data], laidTests := true, laidLooks := .later }
def JournalsKnownCardSaid : Prop := Claim7.holds Tryz.pinned (.plain (OpenSpec.ofChange journalsKnownSpec)) journalsKnownCard

/-- THE SECOND FORM's CARD OF 'ganseylaw40.JournalsKnown'. -/
def journalsKnownUptoCard : Claim7 := { stood := { row := journalsKnownUptoRow, standIns := [], harness := (true, "618f583dfd8aa9c35043cacdacbeb68cb459b6c1e9cd8d4debe7bc04ca670c24"), looks := false }, kinds := [], alts := [], laidByText := true, laidKinds := [.data], laidTests := true, laidLooks := .later }
def JournalsKnownUptoCardSaid : Prop := Claim7.holds Tryz.pinned (.plain (OpenSpec.upto journalsKnownSpec)) journalsKnownUptoCard
end Rows
end Go.Proofs.YtadopgcoggpcdabGreatDoor
