/-
  DERIVED. GIVEN WITH THE SEED: THE CARDS: each row of YtcliokpfogcphaaGreatDoorRows.lean that lists a variable, with what it lists TIED to the program's text (the seventh form; the later family's looks); each row that meets fmt, with fmt's text TOLD by the authors' own Lean function (tested against real Go, not proved from fmt's source: count such statements apart). THE CARD IS WHAT COUNTS. Prove the row's statement (the work); the ties are given (YtcliokpfogcphaaGreatDoorTie.lean); close each card by the builder's one call (the guide's Derived/Test/ToyasCard.lean, 'card_holds'). Laid BY PROGRAM, IN A SANDBOX (cutbox-door.mjs). By AI agents, Wed Nov 11 2026. No macro, syntax, notation, axiom, sorry.
-/
import Derived.Test.YtcliokpfogcphaaGreatDoorRows
import GoSem.ClaimSeven
namespace Go.Proofs.YtcliokpfogcphaaGreatDoor
namespace Rows

/-- THE TIED CARD OF 'ganseylaw43.WorkshopsStart'. -/
def workshopsStartCard : Claim7 := { stood := { row := workshopsStartRow, standIns := [], harness := (true, "0153d619c05a87d11950d638ea40c9578787116cedba3c930677db873037df3f"), looks := false }, kinds := [], alts := [], laidByText := true, laidKinds := [.data], laidTests := true, laidLooks := .later }
def WorkshopsStartCardSaid : Prop := Claim7.holds Tryz.pinned (.plain (OpenSpec.ofChange workshopsStartSpec)) workshopsStartCard

/-- THE TIED CARD OF 'ganseylaw43.WorkshopsFabric'. -/
def workshopsFabricCard : Claim7 := { stood := { row := workshopsFabricRow, standIns := [], harness := (true, "0153d619c05a87d11950d638ea40c9578787116cedba3c930677db873037df3f"), looks := false }, kinds := [], alts := [], laidByText := true, laidKinds := [.data], laidTests := true, laidLooks := .later }
def WorkshopsFabricCardSaid : Prop := Claim7.holds Tryz.pinned (.plain (OpenSpec.ofChange workshopsFabricSpec)) workshopsFabricCard

/-- THE TIED CARD OF 'ganseylaw43.WorkshopsKnown'. -/
def workshopsKnownCard : Claim7 := { stood := { row := workshopsKnownRow, standIns := [], harness := (true, "0153d619c05a87d11950d638ea40c9578787116cedba3c930677db873037df3f"), looks := false }, kinds := [], alts := [], laidByText := true, laidKinds := [.data], laidTests := true, laidLooks := .later }
def WorkshopsKnownCardSaid : Prop := Claim7.holds Tryz.pinned (.plain (OpenSpec.ofChange workshopsKnownSpec)) workshopsKnownCard

/-- THE SECOND FORM's CARD OF 'ganseylaw43.WorkshopsStart'. -/
def workshopsStartUptoCard : Claim7 := { stood := { row := workshopsStartUptoRow, standIns := [], harness := (true, "0153d619c05a87d11950d638ea40c9578787116cedba3c930677db873037df3f"), looks := false }, kinds := [], alts := [], laidByText := true, laidKinds := [.data], laidTests := true, laidLooks := .later }
def WorkshopsStartUptoCardSaid : Prop := Claim7.holds Tryz.pinned (.plain (OpenSpec.upto workshopsStartSpec)) workshopsStartUptoCard

/-- THE SECOND FORM's CARD OF 'ganseylaw43.WorkshopsFabric'. -/
def workshopsFabricUptoCard : Claim7 := { stood := { row := workshopsFabricUptoRow, standIns := [], harness := (true, "0153d619c05a87d11950d638ea40c9578787116cedba3c930677db873037df3f"), looks := false }, kinds := [], alts := [], laidByText := true, laidKinds := [.data], laidTests := true, laidLooks := .later }
def WorkshopsFabricUptoCardSaid : Prop := Claim7.holds Tryz.pinned (.plain (OpenSpec.upto workshopsFabricSpec)) workshopsFabricUptoCard

/-- THE SECOND FORM's CARD OF 'ganseylaw43.WorkshopsKnown'. -/
def workshopsKnownUptoCard : Claim7 := { stood := { row := workshopsKnownUptoRow, standIns := [], harness := (true, "0153d619c05a87d11950d638ea40c9578787116cedba3c930677db873037df3f"), looks := false }, kinds := [], alts := [], laidByText := true, laidKinds := [.data], laidTests := true, laidLooks := .later }
def WorkshopsKnownUptoCardSaid : Prop := Claim7.holds Tryz.pinned (.plain (OpenSpec.upto workshopsKnownSpec)) workshopsKnownUptoCard
end Rows
end Go.Proofs.YtcliokpfogcphaaGreatDoor
