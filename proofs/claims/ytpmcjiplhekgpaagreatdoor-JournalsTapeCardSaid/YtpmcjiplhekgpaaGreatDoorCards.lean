/-
  DERIVED. GIVEN WITH THE SEED: THE CARDS: each row of YtpmcjiplhekgpaaGreatDoorRows.lean that lists a variable, with what it lists TIED to the program's text (the seventh form; the later family's looks); each row that meets fmt, with fmt's text TOLD by the authors' own Lean function (tested against real Go, not proved from fmt's source: count such statements apart). THE CARD IS WHAT COUNTS. Prove the row's statement (the work); the ties are given (YtpmcjiplhekgpaaGreatDoorTie.lean); close each card by the builder's one call (the guide's Derived/Test/ToyasCard.lean, 'card_holds'). Laid BY PROGRAM, IN A SANDBOX (cutbox-door.mjs). By AI agents, Wed Nov 11 2026. No macro, syntax, notation, axiom, sorry.
-/
import Derived.Test.YtpmcjiplhekgpaaGreatDoorRows
import GoSem.ClaimSeven
namespace Go.Proofs.YtpmcjiplhekgpaaGreatDoor
namespace Rows

/-- THE TIED CARD OF 'ganseylaw40.JournalsTape'. -/
def journalsTapeCard : Claim7 := { stood := { row := journalsTapeRow, standIns := [], harness := (true, "0295d7404cc061a8bfe2c0b4a52227ce5cb748d7646212bd4a3acaffacf6a38f"), looks := false }, kinds := [], alts := [], laidByText := true, laidKinds := [.data], laidTests := true, laidLooks := .later }
def JournalsTapeCardSaid : Prop := Claim7.holds Tryz.pinned (.plain (OpenSpec.ofChange journalsTapeSpec)) journalsTapeCard

/-- THE TIED CARD OF 'ganseylaw38.CostsPercent'. -/
def costsPercentCard : Claim7 := { stood := { row := costsPercentRow, standIns := [], harness := (true, "0295d7404cc061a8bfe2c0b4a52227ce5cb748d7646212bd4a3acaffacf6a38f"), looks := false }, kinds := [], alts := [], laidByText := true, laidKinds := [.data], laidTests := true, laidLooks := .later }
def CostsPercentCardSaid : Prop := Claim7.holds Tryz.pinned (.plain (OpenSpec.ofChange costsPercentSpec)) costsPercentCard

/-- THE TIED CARD OF 'ganseylaw38.CostsNumbers'. -/
def costsNumbersCard : Claim7 := { stood := { row := costsNumbersRow, standIns := [], harness := (true, "0295d7404cc061a8bfe2c0b4a52227ce5cb748d7646212bd4a3acaffacf6a38f"), looks := false }, kinds := [], alts := [], laidByText := true, laidKinds := [.data], laidTests := true, laidLooks := .later }
def CostsNumbersCardSaid : Prop := Claim7.holds Tryz.pinned (.plain (OpenSpec.ofChange costsNumbersSpec)) costsNumbersCard

/-- THE TIED CARD OF 'ganseylaw43.WorkshopsErrors'. -/
def workshopsErrorsCard : Claim7 := { stood := { row := workshopsErrorsRow, standIns := [], harness := (true, "0295d7404cc061a8bfe2c0b4a52227ce5cb748d7646212bd4a3acaffacf6a38f"), looks := false }, kinds := [], alts := [], laidByText := true, laidKinds := [.data], laidTests := true, laidLooks := .later }
def WorkshopsErrorsCardSaid : Prop := Claim7.holds Tryz.pinned (.plain (OpenSpec.ofChange workshopsErrorsSpec)) workshopsErrorsCard

/-- THE SECOND FORM's CARD OF 'ganseylaw40.JournalsTape'. -/
def journalsTapeUptoCard : Claim7 := { stood := { row := journalsTapeUptoRow, standIns := [], harness := (true, "0295d7404cc061a8bfe2c0b4a52227ce5cb748d7646212bd4a3acaffacf6a38f"), looks := false }, kinds := [], alts := [], laidByText := true, laidKinds := [.data], laidTests := true, laidLooks := .later }
def JournalsTapeUptoCardSaid : Prop := Claim7.holds Tryz.pinned (.plain (OpenSpec.upto journalsTapeSpec)) journalsTapeUptoCard

/-- THE SECOND FORM's CARD OF 'ganseylaw38.CostsPercent'. -/
def costsPercentUptoCard : Claim7 := { stood := { row := costsPercentUptoRow, standIns := [], harness := (true, "0295d7404cc061a8bfe2c0b4a52227ce5cb748d7646212bd4a3acaffacf6a38f"), looks := false }, kinds := [], alts := [], laidByText := true, laidKinds := [.data], laidTests := true, laidLooks := .later }
def CostsPercentUptoCardSaid : Prop := Claim7.holds Tryz.pinned (.plain (OpenSpec.upto costsPercentSpec)) costsPercentUptoCard

/-- THE SECOND FORM's CARD OF 'ganseylaw38.CostsNumbers'. -/
def costsNumbersUptoCard : Claim7 := { stood := { row := costsNumbersUptoRow, standIns := [], harness := (true, "0295d7404cc061a8bfe2c0b4a52227ce5cb748d7646212bd4a3acaffacf6a38f"), looks := false }, kinds := [], alts := [], laidByText := true, laidKinds := [.data], laidTests := true, laidLooks := .later }
def CostsNumbersUptoCardSaid : Prop := Claim7.holds Tryz.pinned (.plain (OpenSpec.upto costsNumbersSpec)) costsNumbersUptoCard

/-- THE SECOND FORM's CARD OF 'ganseylaw43.WorkshopsErrors'. -/
def workshopsErrorsUptoCard : Claim7 := { stood := { row := workshopsErrorsUptoRow, standIns := [], harness := (true, "0295d7404cc061a8bfe2c0b4a52227ce5cb748d7646212bd4a3acaffacf6a38f"), looks := false }, kinds := [], alts := [], laidByText := true, laidKinds := [.data], laidTests := true, laidLooks := .later }
def WorkshopsErrorsUptoCardSaid : Prop := Claim7.holds Tryz.pinned (.plain (OpenSpec.upto workshopsErrorsSpec)) workshopsErrorsUptoCard
end Rows
end Go.Proofs.YtpmcjiplhekgpaaGreatDoor
