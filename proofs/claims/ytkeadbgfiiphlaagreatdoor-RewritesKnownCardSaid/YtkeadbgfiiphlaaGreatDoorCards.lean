/-
  DERIVED. GIVEN WITH THE SEED: THE CARDS: each row of YtkeadbgfiiphlaaGreatDoorRows.lean that lists a variable, with what it lists TIED to the program's text (the seventh form; the later family's looks); each row that meets fmt, with fmt's text TOLD by the authors' own Lean function (tested against real Go, not proved from fmt's source: count such statements apart). THE CARD IS WHAT COUNTS. Prove the row's statement (the work); the ties are given (YtkeadbgfiiphlaaGreatDoorTie.lean); close each card by the builder's one call (the guide's Derived/Test/ToyasCard.lean, 'card_holds'). Laid BY PROGRAM, IN A SANDBOX (cutbox-door.mjs). By AI agents, Wed Nov 11 2026. No macro, syntax, notation, axiom, sorry.
-/
import Derived.Test.YtkeadbgfiiphlaaGreatDoorRows
import GoSem.ClaimSeven
namespace Go.Proofs.YtkeadbgfiiphlaaGreatDoor
namespace Rows

/-- THE TIED CARD OF 'ganseylaw35.RewritesKnown'. -/
def rewritesKnownCard : Claim7 := { stood := { row := rewritesKnownRow, standIns := [], harness := (true, "37fa54277be3b16dee7b2c8cbf6efeddf18770edd8c159fc887389ac340e290b"), looks := false }, kinds := [], alts := [], laidByText := true, laidKinds := [.data], laidTests := true, laidLooks := .later }
def RewritesKnownCardSaid : Prop := Claim7.holds Tryz.pinned (.plain (OpenSpec.ofChange rewritesKnownSpec)) rewritesKnownCard

/-- THE SECOND FORM's CARD OF 'ganseylaw35.RewritesKnown'. -/
def rewritesKnownUptoCard : Claim7 := { stood := { row := rewritesKnownUptoRow, standIns := [], harness := (true, "37fa54277be3b16dee7b2c8cbf6efeddf18770edd8c159fc887389ac340e290b"), looks := false }, kinds := [], alts := [], laidByText := true, laidKinds := [.data], laidTests := true, laidLooks := .later }
def RewritesKnownUptoCardSaid : Prop := Claim7.holds Tryz.pinned (.plain (OpenSpec.upto rewritesKnownSpec)) rewritesKnownUptoCard
end Rows
end Go.Proofs.YtkeadbgfiiphlaaGreatDoor
