/-
  DERIVED. GIVEN WITH THE SEED: THE CARDS: each row of YtblalpngahiehaaGreatDoorRows.lean that lists a variable, with what it lists TIED to the program's text (the seventh form; the later family's looks); each row that meets fmt, with fmt's text TOLD by the authors' own Lean function (tested against real Go, not proved from fmt's source: count such statements apart). THE CARD IS WHAT COUNTS. Prove the row's statement (the work); the ties are given (YtblalpngahiehaaGreatDoorTie.lean); close each card by the builder's one call (the guide's Derived/Test/ToyasCard.lean, 'card_holds'). Laid BY PROGRAM, IN A SANDBOX (cutbox-door.mjs). By AI agents, Wed Nov 11 2026. No macro, syntax, notation, axiom, sorry.
-/
import Derived.Test.YtblalpngahiehaaGreatDoorRows
import GoSem.ClaimSeven
namespace Go.Proofs.YtblalpngahiehaaGreatDoor
namespace Rows

/-- THE TIED CARD OF 'ganseylaw40.JournalsErrors'. -/
def journalsErrorsCard : Claim7 := { stood := { row := journalsErrorsRow, standIns := [], harness := (true, "8b6cccd1984f6d90b588b9bfd4bc6f8c68dfdd0d74d2628512f1e2ac15b022cd"), looks := false }, kinds := [], alts := [], laidByText := true, laidKinds := [.data], laidTests := true, laidLooks := .later }
def JournalsErrorsCardSaid : Prop := Claim7.holds Tryz.pinned (.plain (OpenSpec.ofChange journalsErrorsSpec)) journalsErrorsCard

/-- THE TIED CARD OF 'ganseylaw40.JournalsResume'. -/
def journalsResumeCard : Claim7 := { stood := { row := journalsResumeRow, standIns := [], harness := (true, "8b6cccd1984f6d90b588b9bfd4bc6f8c68dfdd0d74d2628512f1e2ac15b022cd"), looks := false }, kinds := [], alts := [], laidByText := true, laidKinds := [.data], laidTests := true, laidLooks := .later }
def JournalsResumeCardSaid : Prop := Claim7.holds Tryz.pinned (.plain (OpenSpec.ofChange journalsResumeSpec)) journalsResumeCard

/-- THE TIED CARD OF 'ganseylaw40.JournalsCrash'. -/
def journalsCrashCard : Claim7 := { stood := { row := journalsCrashRow, standIns := [], harness := (true, "8b6cccd1984f6d90b588b9bfd4bc6f8c68dfdd0d74d2628512f1e2ac15b022cd"), looks := false }, kinds := [], alts := [], laidByText := true, laidKinds := [.data], laidTests := true, laidLooks := .later }
def JournalsCrashCardSaid : Prop := Claim7.holds Tryz.pinned (.plain (OpenSpec.ofChange journalsCrashSpec)) journalsCrashCard

/-- THE SECOND FORM's CARD OF 'ganseylaw40.JournalsErrors'. -/
def journalsErrorsUptoCard : Claim7 := { stood := { row := journalsErrorsUptoRow, standIns := [], harness := (true, "8b6cccd1984f6d90b588b9bfd4bc6f8c68dfdd0d74d2628512f1e2ac15b022cd"), looks := false }, kinds := [], alts := [], laidByText := true, laidKinds := [.data], laidTests := true, laidLooks := .later }
def JournalsErrorsUptoCardSaid : Prop := Claim7.holds Tryz.pinned (.plain (OpenSpec.upto journalsErrorsSpec)) journalsErrorsUptoCard

/-- THE SECOND FORM's CARD OF 'ganseylaw40.JournalsResume'. -/
def journalsResumeUptoCard : Claim7 := { stood := { row := journalsResumeUptoRow, standIns := [], harness := (true, "8b6cccd1984f6d90b588b9bfd4bc6f8c68dfdd0d74d2628512f1e2ac15b022cd"), looks := false }, kinds := [], alts := [], laidByText := true, laidKinds := [.data], laidTests := true, laidLooks := .later }
def JournalsResumeUptoCardSaid : Prop := Claim7.holds Tryz.pinned (.plain (OpenSpec.upto journalsResumeSpec)) journalsResumeUptoCard

/-- THE SECOND FORM's CARD OF 'ganseylaw40.JournalsCrash'. -/
def journalsCrashUptoCard : Claim7 := { stood := { row := journalsCrashUptoRow, standIns := [], harness := (true, "8b6cccd1984f6d90b588b9bfd4bc6f8c68dfdd0d74d2628512f1e2ac15b022cd"), looks := false }, kinds := [], alts := [], laidByText := true, laidKinds := [.data], laidTests := true, laidLooks := .later }
def JournalsCrashUptoCardSaid : Prop := Claim7.holds Tryz.pinned (.plain (OpenSpec.upto journalsCrashSpec)) journalsCrashUptoCard
end Rows
end Go.Proofs.YtblalpngahiehaaGreatDoor
