/-
  DERIVED. GIVEN WITH THE SEED: THE CARDS: each row of YtagpgnldjjmhkacGreatDoorRows.lean that lists a variable, with what it lists TIED to the program's text (the seventh form; the later family's looks); each row that meets fmt, with fmt's text TOLD by the authors' own Lean function (tested against real Go, not proved from fmt's source: count such statements apart). THE CARD IS WHAT COUNTS. Prove the row's statement (the work); the ties are given (YtagpgnldjjmhkacGreatDoorTie.lean); close each card by the builder's one call (the guide's Derived/Test/ToyasCard.lean, 'card_holds'). Laid BY PROGRAM, IN A SANDBOX (cutbox-door.mjs). By AI agents, Wed Nov 11 2026. No macro, syntax, notation, axiom, sorry.
-/
import Derived.Test.YtagpgnldjjmhkacGreatDoorRows
import GoSem.ClaimSeven
namespace Go.Proofs.YtagpgnldjjmhkacGreatDoor
namespace Rows

/-- THE TIED CARD OF 'ganseylaw36.OptimisersBetter'. -/
def optimisersBetterCard : Claim7 := { stood := { row := optimisersBetterRow, standIns := [], harness := (true, "430834275faf2baa9e195ad09cba6bc0b69bdbc5f9e57fd87ca542b2aef8774e"), looks := false }, kinds := [], alts := [], laidByText := true, laidKinds := [.data], laidTests := true, laidLooks := .later }
def OptimisersBetterCardSaid : Prop := Claim7.holds Tryz.pinned (.plain (OpenSpec.ofChange optimisersBetterSpec)) optimisersBetterCard

/-- THE SECOND FORM's CARD OF 'ganseylaw36.OptimisersBetter'. -/
def optimisersBetterUptoCard : Claim7 := { stood := { row := optimisersBetterUptoRow, standIns := [], harness := (true, "430834275faf2baa9e195ad09cba6bc0b69bdbc5f9e57fd87ca542b2aef8774e"), looks := false }, kinds := [], alts := [], laidByText := true, laidKinds := [.data], laidTests := true, laidLooks := .later }
def OptimisersBetterUptoCardSaid : Prop := Claim7.holds Tryz.pinned (.plain (OpenSpec.upto optimisersBetterSpec)) optimisersBetterUptoCard
end Rows
end Go.Proofs.YtagpgnldjjmhkacGreatDoor
