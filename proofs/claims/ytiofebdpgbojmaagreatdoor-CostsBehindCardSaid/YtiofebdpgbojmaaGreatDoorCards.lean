/-
  DERIVED. GIVEN WITH THE SEED: THE CARDS: each row of YtiofebdpgbojmaaGreatDoorRows.lean that lists a variable, with what it lists TIED to the program's text (the seventh form; the later family's looks); each row that meets fmt, with fmt's text TOLD by the authors' own Lean function (tested against real Go, not proved from fmt's source: count such statements apart). THE CARD IS WHAT COUNTS. Prove the row's statement (the work); the ties are given (YtiofebdpgbojmaaGreatDoorTie.lean); close each card by the builder's one call (the guide's Derived/Test/ToyasCard.lean, 'card_holds'). Laid BY PROGRAM, IN A SANDBOX (cutbox-door.mjs). By AI agents, Wed Nov 11 2026. No macro, syntax, notation, axiom, sorry.
-/
import Derived.Test.YtiofebdpgbojmaaGreatDoorRows
import GoSem.ClaimSeven
namespace Go.Proofs.YtiofebdpgbojmaaGreatDoor
namespace Rows

/-- THE TIED CARD OF 'ganseylaw35.RewritesPlaces'. -/
def rewritesPlacesCard : Claim7 := { stood := { row := rewritesPlacesRow, standIns := [], harness := (true, "34c3e6cfcce7a476dbd21c42d401b4995b9d10a39055dd61407e9188a989d73b"), looks := false }, kinds := [], alts := [], laidByText := true, laidKinds := [.data], laidTests := true, laidLooks := .later }
def RewritesPlacesCardSaid : Prop := Claim7.holds Tryz.pinned (.plain (OpenSpec.ofChange rewritesPlacesSpec)) rewritesPlacesCard

/-- THE TIED CARD OF 'ganseylaw38.CostsOf'. -/
def costsOfCard : Claim7 := { stood := { row := costsOfRow, standIns := [], harness := (true, "34c3e6cfcce7a476dbd21c42d401b4995b9d10a39055dd61407e9188a989d73b"), looks := false }, kinds := [], alts := [], laidByText := true, laidKinds := [.data], laidTests := true, laidLooks := .later }
def CostsOfCardSaid : Prop := Claim7.holds Tryz.pinned (.plain (OpenSpec.ofChange costsOfSpec)) costsOfCard

/-- THE TIED CARD OF 'ganseylaw36.OptimisersBetter'. -/
def optimisersBetterCard : Claim7 := { stood := { row := optimisersBetterRow, standIns := [], harness := (true, "34c3e6cfcce7a476dbd21c42d401b4995b9d10a39055dd61407e9188a989d73b"), looks := false }, kinds := [], alts := [], laidByText := true, laidKinds := [.data], laidTests := true, laidLooks := .later }
def OptimisersBetterCardSaid : Prop := Claim7.holds Tryz.pinned (.plain (OpenSpec.ofChange optimisersBetterSpec)) optimisersBetterCard

/-- THE TIED CARD OF 'ganseylaw38.CostsBehind'. -/
def costsBehindCard : Claim7 := { stood := { row := costsBehindRow, standIns := [], harness := (true, "34c3e6cfcce7a476dbd21c42d401b4995b9d10a39055dd61407e9188a989d73b"), looks := false }, kinds := [], alts := [], laidByText := true, laidKinds := [.data], laidTests := true, laidLooks := .later }
def CostsBehindCardSaid : Prop := Claim7.holds Tryz.pinned (.plain (OpenSpec.ofChange costsBehindSpec)) costsBehindCard

/-- THE TIED CARD OF 'ganseylaw35.RewritesKeep'. -/
def rewritesKeepCard : Claim7 := { stood := { row := rewritesKeepRow, standIns := [], harness := (true, "34c3e6cfcce7a476dbd21c42d401b4995b9d10a39055dd61407e9188a989d73b"), looks := false }, kinds := [], alts := [], laidByText := true, laidKinds := [.data], laidTests := true, laidLooks := .later }
def RewritesKeepCardSaid : Prop := Claim7.holds Tryz.pinned (.plain (OpenSpec.ofChange rewritesKeepSpec)) rewritesKeepCard

/-- THE TIED CARD OF 'ganseylaw35.RewritesReduce'. -/
def rewritesReduceCard : Claim7 := { stood := { row := rewritesReduceRow, standIns := [], harness := (true, "34c3e6cfcce7a476dbd21c42d401b4995b9d10a39055dd61407e9188a989d73b"), looks := false }, kinds := [], alts := [], laidByText := true, laidKinds := [.data], laidTests := true, laidLooks := .later }
def RewritesReduceCardSaid : Prop := Claim7.holds Tryz.pinned (.plain (OpenSpec.ofChange rewritesReduceSpec)) rewritesReduceCard

/-- THE SECOND FORM's CARD OF 'ganseylaw35.RewritesPlaces'. -/
def rewritesPlacesUptoCard : Claim7 := { stood := { row := rewritesPlacesUptoRow, standIns := [], harness := (true, "34c3e6cfcce7a476dbd21c42d401b4995b9d10a39055dd61407e9188a989d73b"), looks := false }, kinds := [], alts := [], laidByText := true, laidKinds := [.data], laidTests := true, laidLooks := .later }
def RewritesPlacesUptoCardSaid : Prop := Claim7.holds Tryz.pinned (.plain (OpenSpec.upto rewritesPlacesSpec)) rewritesPlacesUptoCard

/-- THE SECOND FORM's CARD OF 'ganseylaw38.CostsOf'. -/
def costsOfUptoCard : Claim7 := { stood := { row := costsOfUptoRow, standIns := [], harness := (true, "34c3e6cfcce7a476dbd21c42d401b4995b9d10a39055dd61407e9188a989d73b"), looks := false }, kinds := [], alts := [], laidByText := true, laidKinds := [.data], laidTests := true, laidLooks := .later }
def CostsOfUptoCardSaid : Prop := Claim7.holds Tryz.pinned (.plain (OpenSpec.upto costsOfSpec)) costsOfUptoCard

/-- THE SECOND FORM's CARD OF 'ganseylaw36.OptimisersBetter'. -/
def optimisersBetterUptoCard : Claim7 := { stood := { row := optimisersBetterUptoRow, standIns := [], harness := (true, "34c3e6cfcce7a476dbd21c42d401b4995b9d10a39055dd61407e9188a989d73b"), looks := false }, kinds := [], alts := [], laidByText := true, laidKinds := [.data], laidTests := true, laidLooks := .later }
def OptimisersBetterUptoCardSaid : Prop := Claim7.holds Tryz.pinned (.plain (OpenSpec.upto optimisersBetterSpec)) optimisersBetterUptoCard

/-- THE SECOND FORM's CARD OF 'ganseylaw38.CostsBehind'. -/
def costsBehindUptoCard : Claim7 := { stood := { row := costsBehindUptoRow, standIns := [], harness := (true, "34c3e6cfcce7a476dbd21c42d401b4995b9d10a39055dd61407e9188a989d73b"), looks := false }, kinds := [], alts := [], laidByText := true, laidKinds := [.data], laidTests := true, laidLooks := .later }
def CostsBehindUptoCardSaid : Prop := Claim7.holds Tryz.pinned (.plain (OpenSpec.upto costsBehindSpec)) costsBehindUptoCard

/-- THE SECOND FORM's CARD OF 'ganseylaw35.RewritesKeep'. -/
def rewritesKeepUptoCard : Claim7 := { stood := { row := rewritesKeepUptoRow, standIns := [], harness := (true, "34c3e6cfcce7a476dbd21c42d401b4995b9d10a39055dd61407e9188a989d73b"), looks := false }, kinds := [], alts := [], laidByText := true, laidKinds := [.data], laidTests := true, laidLooks := .later }
def RewritesKeepUptoCardSaid : Prop := Claim7.holds Tryz.pinned (.plain (OpenSpec.upto rewritesKeepSpec)) rewritesKeepUptoCard

/-- THE SECOND FORM's CARD OF 'ganseylaw35.RewritesReduce'. -/
def rewritesReduceUptoCard : Claim7 := { stood := { row := rewritesReduceUptoRow, standIns := [], harness := (true, "34c3e6cfcce7a476dbd21c42d401b4995b9d10a39055dd61407e9188a989d73b"), looks := false }, kinds := [], alts := [], laidByText := true, laidKinds := [.data], laidTests := true, laidLooks := .later }
def RewritesReduceUptoCardSaid : Prop := Claim7.holds Tryz.pinned (.plain (OpenSpec.upto rewritesReduceSpec)) rewritesReduceUptoCard
end Rows
end Go.Proofs.YtiofebdpgbojmaaGreatDoor
