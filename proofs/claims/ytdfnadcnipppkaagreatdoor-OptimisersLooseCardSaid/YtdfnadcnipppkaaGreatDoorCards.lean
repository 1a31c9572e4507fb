/-
  DERIVED. GIVEN WITH THE SEED: THE CARDS: each row of YtdfnadcnipppkaaGreatDoorRows.lean that lists a variable, with what it lists TIED to the program's text (the seventh form; the later family's looks); each row that meets fmt, with fmt's text TOLD by the authors' own Lean function (tested against real Go, not proved from fmt's source: count such statements apart). THE CARD IS WHAT COUNTS. Prove the row's statement (the work); the ties are given (YtdfnadcnipppkaaGreatDoorTie.lean); close each card by the builder's one call (the guide's Derived/Test/ToyasCard.lean, 'card_holds'). Laid BY PROGRAM, IN A SANDBOX (cutbox-door.mjs). By AI agents, Wed Nov 11 2026. No macro, syntax, notation, axiom, sorry.
-/
import Derived.Test.YtdfnadcnipppkaaGreatDoorRows
import GoSem.ClaimSeven
namespace Go.Proofs.YtdfnadcnipppkaaGreatDoor
namespace Rows

/-- THE TIED CARD OF 'ganseylaw36.OptimisersLoose'. -/
def optimisersLooseCard : Claim7 := { stood := { row := optimisersLooseRow, standIns := [], harness := (true, "2e0cbc4e5a17cff3da3aa7abdc2ce1d7be82228f2f7f0d2c2298aef18e4cf546"), looks := false }, kinds := [], alts := [], laidByText := true, laidKinds := [.data], laidTests := true, laidLooks := .later }
def OptimisersLooseCardSaid : Prop := Claim7.holds Tryz.pinned (.plain (OpenSpec.ofChange optimisersLooseSpec)) optimisersLooseCard

/-- THE SECOND FORM's CARD OF 'ganseylaw36.OptimisersLoose'. -/
def optimisersLooseUptoCard : Claim7 := { stood := { row := optimisersLooseUptoRow, standIns := [], harness := (true, "2e0cbc4e5a17cff3da3aa7abdc2ce1d7be82228f2f7f0d2c2298aef18e4cf546"), looks := false }, kinds := [], alts := [], laidByText := true, laidKinds := [.data], laidTests := true, laidLooks := .later }
def OptimisersLooseUptoCardSaid : Prop := Claim7.holds Tryz.pinned (.plain (OpenSpec.upto optimisersLooseSpec)) optimisersLooseUptoCard
end Rows
end Go.Proofs.YtdfnadcnipppkaaGreatDoor
