/-
  DERIVED. GIVEN WITH THE SEED: THE CARDS: each row of YtnpfgnhnehkccaaGreatDoorRows.lean that lists a variable, with what it lists TIED to the program's text (the seventh form; the later family's looks); each row that meets fmt, with fmt's text TOLD by the authors' own Lean function (tested against real Go, not proved from fmt's source: count such statements apart). THE CARD IS WHAT COUNTS. Prove the row's statement (the work); the ties are given (YtnpfgnhnehkccaaGreatDoorTie.lean); close each card by the builder's one call (the guide's Derived/Test/ToyasCard.lean, 'card_holds'). Laid BY PROGRAM, IN A SANDBOX (cutbox-door.mjs). By AI agents, Wed Nov 11 2026. No macro, syntax, notation, axiom, sorry.
-/
import Derived.Test.YtnpfgnhnehkccaaGreatDoorRows
import GoSem.ClaimSeven
namespace Go.Proofs.YtnpfgnhnehkccaaGreatDoor
namespace Rows

/-- THE TIED CARD OF 'ganseylaw35.RewritesPlaces'. -/
def rewritesPlacesCard : Claim7 := { stood := { row := rewritesPlacesRow, standIns := [], harness := (true, "fab53128fea0b3b78cdf0eb3847613730ad8534c1a44516cb255971e12ca7a2c"), looks := false }, kinds := [], alts := [], laidByText := true, laidKinds := [.data], laidTests := true, laidLooks := .later }
def RewritesPlacesCardSaid : Prop := Claim7.holds Tryz.pinned (.plain (OpenSpec.ofChange rewritesPlacesSpec)) rewritesPlacesCard

/-- THE TIED CARD OF 'ganseylaw38.CostsOf'. -/
def costsOfCard : Claim7 := { stood := { row := costsOfRow, standIns := [], harness := (true, "fab53128fea0b3b78cdf0eb3847613730ad8534c1a44516cb255971e12ca7a2c"), looks := false }, kinds := [], alts := [], laidByText := true, laidKinds := [.data], laidTests := true, laidLooks := .later }
def CostsOfCardSaid : Prop := Claim7.holds Tryz.pinned (.plain (OpenSpec.ofChange costsOfSpec)) costsOfCard

/-- THE TIED CARD OF 'ganseylaw34.TracesExchange'. -/
def tracesExchangeCard : Claim7 := { stood := { row := tracesExchangeRow, standIns := [], harness := (true, "fab53128fea0b3b78cdf0eb3847613730ad8534c1a44516cb255971e12ca7a2c"), looks := false }, kinds := [], alts := [], laidByText := true, laidKinds := [.data], laidTests := true, laidLooks := .later }
def TracesExchangeCardSaid : Prop := Claim7.holds Tryz.pinned (.plain (OpenSpec.ofChange tracesExchangeSpec)) tracesExchangeCard

/-- THE SECOND FORM's CARD OF 'ganseylaw35.RewritesPlaces'. -/
def rewritesPlacesUptoCard : Claim7 := { stood := { row := rewritesPlacesUptoRow, standIns := [], harness := (true, "fab53128fea0b3b78cdf0eb3847613730ad8534c1a44516cb255971e12ca7a2c"), looks := false }, kinds := [], alts := [], laidByText := true, laidKinds := [.data], laidTests := true, laidLooks := .later }
def RewritesPlacesUptoCardSaid : Prop := Claim7.holds Tryz.pinned (.plain (OpenSpec.upto rewritesPlacesSpec)) rewritesPlacesUptoCard

/-- THE SECOND FORM's CARD OF 'ganseylaw38.CostsOf'. -/
def costsOfUptoCard : Claim7 := { stood := { row := costsOfUptoRow, standIns := [], harness := (true, "fab53128fea0b3b78cdf0eb3847613730ad8534c1a44516cb255971e12ca7a2c"), looks := false }, kinds := [], alts := [], laidByText := true, laidKinds := [.data], laidTests := true, laidLooks := .later }
def CostsOfUptoCardSaid : Prop := Claim7.holds Tryz.pinned (.plain (OpenSpec.upto costsOfSpec)) costsOfUptoCard

/-- THE SECOND FORM's CARD OF 'ganseylaw34.TracesExchange'. -/
def tracesExchangeUptoCard : Claim7 := { stood := { row := tracesExchangeUptoRow, standIns := [], harness := (true, "fab53128fea0b3b78cdf0eb3847613730ad8534c1a44516cb255971e12ca7a2c"), looks := false }, kinds := [], alts := [], laidByText := true, laidKinds := [.data], laidTests := true, laidLooks := .later }
def TracesExchangeUptoCardSaid : Prop := Claim7.holds Tryz.pinned (.plain (OpenSpec.upto tracesExchangeSpec)) tracesExchangeUptoCard
end Rows
end Go.Proofs.YtnpfgnhnehkccaaGreatDoor
