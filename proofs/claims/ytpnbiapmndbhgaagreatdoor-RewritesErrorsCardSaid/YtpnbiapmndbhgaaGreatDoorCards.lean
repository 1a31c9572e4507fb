/-
  DERIVED. GIVEN WITH THE SEED: THE CARDS: each row of YtpnbiapmndbhgaaGreatDoorRows.lean that lists a variable, with what it lists TIED to the program's text (the seventh form; the later family's looks); each row that meets fmt, with fmt's text TOLD by the authors' own Lean function (tested against real Go, not proved from fmt's source: count such statements apart). THE CARD IS WHAT COUNTS. Prove the row's statement (the work); the ties are given (YtpnbiapmndbhgaaGreatDoorTie.lean); close each card by the builder's one call (the guide's Derived/Test/ToyasCard.lean, 'card_holds'). Laid BY PROGRAM, IN A SANDBOX (cutbox-door.mjs). By AI agents, Wed Nov 11 2026. No macro, syntax, notation, axiom, sorry.
-/
import Derived.Test.YtpnbiapmndbhgaaGreatDoorRows
import GoSem.ClaimSeven
namespace Go.Proofs.YtpnbiapmndbhgaaGreatDoor
namespace Rows

/-- THE TIED CARD OF 'ganseylaw38.CostsErrors'. -/
def costsErrorsCard : Claim7 := { stood := { row := costsErrorsRow, standIns := [], harness := (true, "cd064bc900294a45842b76860b7fbf3df6e97136dc65c45fcf71a29d4793d5e0"), looks := false }, kinds := [], alts := [], laidByText := true, laidKinds := [.data], laidTests := true, laidLooks := .later }
def CostsErrorsCardSaid : Prop := Claim7.holds Tryz.pinned (.plain (OpenSpec.ofChange costsErrorsSpec)) costsErrorsCard

/-- THE TIED CARD OF 'ganseylaw34.TracesErrors'. -/
def tracesErrorsCard : Claim7 := { stood := { row := tracesErrorsRow, standIns := [], harness := (true, "cd064bc900294a45842b76860b7fbf3df6e97136dc65c45fcf71a29d4793d5e0"), looks := false }, kinds := [], alts := [], laidByText := true, laidKinds := [.data], laidTests := true, laidLooks := .later }
def TracesErrorsCardSaid : Prop := Claim7.holds Tryz.pinned (.plain (OpenSpec.ofChange tracesErrorsSpec)) tracesErrorsCard

/-- THE TIED CARD OF 'ganseylaw35.RewritesErrors'. -/
def rewritesErrorsCard : Claim7 := { stood := { row := rewritesErrorsRow, standIns := [], harness := (true, "cd064bc900294a45842b76860b7fbf3df6e97136dc65c45fcf71a29d4793d5e0"), looks := false }, kinds := [], alts := [], laidByText := true, laidKinds := [.data], laidTests := true, laidLooks := .later }
def RewritesErrorsCardSaid : Prop := Claim7.holds Tryz.pinned (.plain (OpenSpec.ofChange rewritesErrorsSpec)) rewritesErrorsCard

/-- THE TIED CARD OF 'ganseylaw36.OptimisersErrors'. -/
def optimisersErrorsCard : Claim7 := { stood := { row := optimisersErrorsRow, standIns := [], harness := (true, "cd064bc900294a45842b76860b7fbf3df6e97136dc65c45fcf71a29d4793d5e0"), looks := false }, kinds := [], alts := [], laidByText := true, laidKinds := [.data], laidTests := true, laidLooks := .later }
def OptimisersErrorsCardSaid : Prop := Claim7.holds Tryz.pinned (.plain (OpenSpec.ofChange optimisersErrorsSpec)) optimisersErrorsCard

/-- THE SECOND FORM's CARD OF 'ganseylaw38.CostsErrors'. -/
def costsErrorsUptoCard : Claim7 := { stood := { row := costsErrorsUptoRow, standIns := [], harness := (true, "cd064bc900294a45842b76860b7fbf3df6e97136dc65c45fcf71a29d4793d5e0"), looks := false }, kinds := [], alts := [], laidByText := true, laidKinds := [.data], laidTests := true, laidLooks := .later }
def CostsErrorsUptoCardSaid : Prop := Claim7.holds Tryz.pinned (.plain (OpenSpec.upto costsErrorsSpec)) costsErrorsUptoCard

/-- THE SECOND FORM's CARD OF 'ganseylaw34.TracesErrors'. -/
def tracesErrorsUptoCard : Claim7 := { stood := { row := tracesErrorsUptoRow, standIns := [], harness := (true, "cd064bc900294a45842b76860b7fbf3df6e97136dc65c45fcf71a29d4793d5e0"), looks := false }, kinds := [], alts := [], laidByText := true, laidKinds := [.data], laidTests := true, laidLooks := .later }
def TracesErrorsUptoCardSaid : Prop := Claim7.holds Tryz.pinned (.plain (OpenSpec.upto tracesErrorsSpec)) tracesErrorsUptoCard

/-- THE SECOND FORM's CARD OF 'ganseylaw35.RewritesErrors'. -/
def rewritesErrorsUptoCard : Claim7 := { stood := { row := rewritesErrorsUptoRow, standIns := [], harness := (true, "cd064bc900294a45842b76860b7fbf3df6e97136dc65c45fcf71a29d4793d5e0"), looks := false }, kinds := [], alts := [], laidByText := true, laidKinds := [.data], laidTests := true, laidLooks := .later }
def RewritesErrorsUptoCardSaid : Prop := Claim7.holds Tryz.pinned (.plain (OpenSpec.upto rewritesErrorsSpec)) rewritesErrorsUptoCard

/-- THE SECOND FORM's CARD OF 'ganseylaw36.OptimisersErrors'. -/
def optimisersErrorsUptoCard : Claim7 := { stood := { row := optimisersErrorsUptoRow, standIns := [], harness := (true, "cd064bc900294a45842b76860b7fbf3df6e97136dc65c45fcf71a29d4793d5e0"), looks := false }, kinds := [], alts := [], laidByText := true, laidKinds := [.data], laidTests := true, laidLooks := .later }
def OptimisersErrorsUptoCardSaid : Prop := Claim7.holds Tryz.pinned (.plain (OpenSpec.upto optimisersErrorsSpec)) optimisersErrorsUptoCard
end Rows
end Go.Proofs.YtpnbiapmndbhgaaGreatDoor
