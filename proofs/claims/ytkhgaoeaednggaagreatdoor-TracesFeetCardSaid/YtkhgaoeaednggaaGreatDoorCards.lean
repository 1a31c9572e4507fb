/-
  DERIVED. GIVEN WITH THE SEED: THE CARDS: each row of YtkhgaoeaednggaaGreatDoorRows.lean that lists a variable, with what it lists TIED to the program's text (the seventh form; the later family's looks); each row that meets fmt, with fmt's text TOLD by the authors' own Lean function (tested against real Go, not proved from fmt's source: count such statements apart). THE CARD IS WHAT COUNTS. Prove the row's statement (the work); the ties are given (YtkhgaoeaednggaaGreatDoorTie.lean); close each card by the builder's one call (the guide's Derived/Test/ToyasCard.lean, 'card_holds'). Laid BY PROGRAM, IN A SANDBOX (cutbox-door.mjs). By AI agents, Wed Nov 11 2026. No macro, syntax, notation, axiom, sorry.
-/
import Derived.Test.YtkhgaoeaednggaaGreatDoorRows
import GoSem.ClaimSeven
namespace Go.Proofs.YtkhgaoeaednggaaGreatDoor
namespace Rows

/-- THE TIED CARD OF 'ganseylaw40.JournalsLook'. -/
def journalsLookCard : Claim7 := { stood := { row := journalsLookRow, standIns := [], harness := (true, "724d9e08e7a328e41c6bb4c8225ab8b3de9b55932e6bd67509c8a7c5cf408b01"), looks := false }, kinds := [], alts := [], laidByText := true, laidKinds := [.data], laidTests := true, laidLooks := .later }
def JournalsLookCardSaid : Prop := Claim7.holds Tryz.pinned (.plain (OpenSpec.ofChange journalsLookSpec)) journalsLookCard

/-- THE TIED CARD OF 'ganseylaw34.TracesFeet'. -/
def tracesFeetCard : Claim7 := { stood := { row := tracesFeetRow, standIns := [], harness := (true, "724d9e08e7a328e41c6bb4c8225ab8b3de9b55932e6bd67509c8a7c5cf408b01"), looks := false }, kinds := [], alts := [], laidByText := true, laidKinds := [.data], laidTests := true, laidLooks := .later }
def TracesFeetCardSaid : Prop := Claim7.holds Tryz.pinned (.plain (OpenSpec.ofChange tracesFeetSpec)) tracesFeetCard

/-- THE SECOND FORM's CARD OF 'ganseylaw40.JournalsLook'. -/
def journalsLookUptoCard : Claim7 := { stood := { row := journalsLookUptoRow, standIns := [], harness := (true, "724d9e08e7a328e41c6bb4c8225ab8b3de9b55932e6bd67509c8a7c5cf408b01"), looks := false }, kinds := [], alts := [], laidByText := true, laidKinds := [.data], laidTests := true, laidLooks := .later }
def JournalsLookUptoCardSaid : Prop := Claim7.holds Tryz.pinned (.plain (OpenSpec.upto journalsLookSpec)) journalsLookUptoCard

/-- THE SECOND FORM's CARD OF 'ganseylaw34.TracesFeet'. -/
def tracesFeetUptoCard : Claim7 := { stood := { row := tracesFeetUptoRow, standIns := [], harness := (true, "724d9e08e7a328e41c6bb4c8225ab8b3de9b55932e6bd67509c8a7c5cf408b01"), looks := false }, kinds := [], alts := [], laidByText := true, laidKinds := [.data], laidTests := true, laidLooks := .later }
def TracesFeetUptoCardSaid : Prop := Claim7.holds Tryz.pinned (.plain (OpenSpec.upto tracesFeetSpec)) tracesFeetUptoCard
end Rows
end Go.Proofs.YtkhgaoeaednggaaGreatDoor
