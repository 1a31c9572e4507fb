/-
  DERIVED. GIVEN WITH THE SEED: THE CARDS: each row of YtbgdblhggjonaaaGreatDoorRows.lean that lists a variable, with what it lists TIED to the program's text (the seventh form; the later family's looks); each row that meets fmt, with fmt's text TOLD by the authors' own Lean function (tested against real Go, not proved from fmt's source: count such statements apart). THE CARD IS WHAT COUNTS. Prove the row's statement (the work); the ties are given (YtbgdblhggjonaaaGreatDoorTie.lean); close each card by the builder's one call (the guide's Derived/Test/ToyasCard.lean, 'card_holds'). Laid BY PROGRAM, IN A SANDBOX (cutbox-door.mjs). By AI agents, Wed Nov 11 2026. No macro, syntax, notation, axiom, sorry.
-/
import Derived.Test.YtbgdblhggjonaaaGreatDoorRows
import GoSem.ClaimSeven
namespace Go.Proofs.YtbgdblhggjonaaaGreatDoor
namespace Rows

/-- THE TIED CARD OF 'ganseylaw36.OptimisersErrors'. -/
def optimisersErrorsCard : Claim7 := { stood := { row := optimisersErrorsRow, standIns := [], harness := (true, "ee4daa19e775cbfb266fc82d9c13d25f4ef259565a53eccece106509ef92488a"), looks := false }, kinds := [], alts := [], laidByText := true, laidKinds := [.data], laidTests := true, laidLooks := .later }
def OptimisersErrorsCardSaid : Prop := Claim7.holds Tryz.pinned (.plain (OpenSpec.ofChange optimisersErrorsSpec)) optimisersErrorsCard

/-- THE SECOND FORM's CARD OF 'ganseylaw36.OptimisersErrors'. -/
def optimisersErrorsUptoCard : Claim7 := { stood := { row := optimisersErrorsUptoRow, standIns := [], harness := (true, "ee4daa19e775cbfb266fc82d9c13d25f4ef259565a53eccece106509ef92488a"), looks := false }, kinds := [], alts := [], laidByText := true, laidKinds := [.data], laidTests := true, laidLooks := .later }
def OptimisersErrorsUptoCardSaid : Prop := Claim7.holds Tryz.pinned (.plain (OpenSpec.upto optimisersErrorsSpec)) optimisersErrorsUptoCard
end Rows
end Go.Proofs.YtbgdblhggjonaaaGreatDoor
