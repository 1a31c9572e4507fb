/-
  DERIVED. GIVEN WITH THE SEED: THE CARDS: each row of YtagpgnldjjmhkabGreatDoorRows.lean that lists a variable, with what it lists TIED to the program's text (the seventh form; the later family's looks); each row that meets fmt, with fmt's text TOLD by the authors' own Lean function (tested against real Go, not proved from fmt's source: count such statements apart). THE CARD IS WHAT COUNTS. Prove the row's statement (the work); the ties are given (YtagpgnldjjmhkabGreatDoorTie.lean); close each card by the builder's one call (the guide's Derived/Test/ToyasCard.lean, 'card_holds'). Laid BY PROGRAM, IN A SANDBOX (cutbox-door.mjs). By AI agents, Wed Nov 11 2026. No macro, syntax, notation, axiom, sorry.
-/
import Derived.Test.YtagpgnldjjmhkabGreatDoorRows
import GoSem.ClaimSeven
namespace Go.Proofs.YtagpgnldjjmhkabGreatDoor
namespace Rows

/-- THE TIED CARD OF 'ganseylaw35.RewritesUseless'. -/
def rewritesUselessCard : Claim7 := { stood := { row := rewritesUselessRow, standIns := [], harness := (true, "addea4d498ca031b47f16af35526b4699ae5bb59f6e07f968d5706ef498efc07"), looks := false }, kinds := [], alts := [], laidByText := true, laidKinds := [.data], laidTests := true, laidLooks := .later }
def RewritesUselessCardSaid : Prop := Claim7.holds Tryz.pinned (.plain (OpenSpec.ofChange rewritesUselessSpec)) rewritesUselessCard

/-- THE SECOND FORM's CARD OF 'ganseylaw35.RewritesUseless'. -/
def rewritesUselessUptoCard : Claim7 := { stood := { row := rewritesUselessUptoRow, standIns := [], harness := (true, "addea4d498ca031b47f16af35526b4699ae5bb59f6e07f968d5706ef498efc07"), looks := false }, kinds := [], alts := [], laidByText := true, laidKinds := [.data], laidTests := true, laidLooks := .later }
def RewritesUselessUptoCardSaid : Prop := Claim7.holds Tryz.pinned (.plain (OpenSpec.upto rewritesUselessSpec)) rewritesUselessUptoCard
end Rows
end Go.Proofs.YtagpgnldjjmhkabGreatDoor
