/-
  DERIVED. GIVEN WITH THE SEED: THE CARDS: each row of YtagpgnldjjmhkaaGreatDoorRows.lean that lists a variable, with what it lists TIED to the program's text (the seventh form; the later family's looks); each row that meets fmt, with fmt's text TOLD by the authors' own Lean function (tested against real Go, not proved from fmt's source: count such statements apart). THE CARD IS WHAT COUNTS. Prove the row's statement (the work); the ties are given (YtagpgnldjjmhkaaGreatDoorTie.lean); close each card by the builder's one call (the guide's Derived/Test/ToyasCard.lean, 'card_holds'). Laid BY PROGRAM, IN A SANDBOX (cutbox-door.mjs). By AI agents, Wed Nov 11 2026. No macro, syntax, notation, axiom, sorry.
-/
import Derived.Test.YtagpgnldjjmhkaaGreatDoorRows
import GoSem.ClaimSeven
namespace Go.Proofs.YtagpgnldjjmhkaaGreatDoor
namespace Rows

/-- THE TIED CARD OF 'ganseylaw35.RewritesReduce'. -/
def rewritesReduceCard : Claim7 := { stood := { row := rewritesReduceRow, standIns := [], harness := (true, "788a28d413cd9b14d536475a31b946adcea6bcff8b7df148ddf48ead8c52a6a9"), looks := false }, kinds := [], alts := [], laidByText := true, laidKinds := [.data], laidTests := true, laidLooks := .later }
def RewritesReduceCardSaid : Prop := Claim7.holds Tryz.pinned (.plain (OpenSpec.ofChange rewritesReduceSpec)) rewritesReduceCard

/-- THE SECOND FORM's CARD OF 'ganseylaw35.RewritesReduce'. -/
def rewritesReduceUptoCard : Claim7 := { stood := { row := rewritesReduceUptoRow, standIns := [], harness := (true, "788a28d413cd9b14d536475a31b946adcea6bcff8b7df148ddf48ead8c52a6a9"), looks := false }, kinds := [], alts := [], laidByText := true, laidKinds := [.data], laidTests := true, laidLooks := .later }
def RewritesReduceUptoCardSaid : Prop := Claim7.holds Tryz.pinned (.plain (OpenSpec.upto rewritesReduceSpec)) rewritesReduceUptoCard
end Rows
end Go.Proofs.YtagpgnldjjmhkaaGreatDoor
