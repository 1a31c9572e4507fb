/-
  DERIVED. GIVEN WITH THE SEED: THE CARDS: each row of YtibkoahppjkakaaGreatDoorRows.lean that lists a variable, with what it lists TIED to the program's text (the seventh form; the later family's looks); each row that meets fmt, with fmt's text TOLD by the authors' own Lean function (tested against real Go, not proved from fmt's source: count such statements apart). THE CARD IS WHAT COUNTS. Prove the row's statement (the work); the ties are given (YtibkoahppjkakaaGreatDoorTie.lean); close each card by the builder's one call (the guide's Derived/Test/ToyasCard.lean, 'card_holds'). Laid BY PROGRAM, IN A SANDBOX (cutbox-door.mjs). By AI agents, Wed Nov 11 2026. No macro, syntax, notation, axiom, sorry.
-/
import Derived.Test.YtibkoahppjkakaaGreatDoorRows
import GoSem.ClaimSeven
namespace Go.Proofs.YtibkoahppjkakaaGreatDoor
namespace Rows

/-- THE TIED CARD OF 'ganseylaw40.JournalsAgain'. -/
def journalsAgainCard : Claim7 := { stood := { row := journalsAgainRow, standIns := [], harness := (true, "ee9ad1503645a8e1eaacd4d54a614bcd3552493b42419ef826b0d7641a5a1bcf"), looks := false }, kinds := [], alts := [], laidByText := true, laidKinds := [.data], laidTests := true, laidLooks := .later }
def JournalsAgainCardSaid : Prop := Claim7.holds Tryz.pinned (.plain (OpenSpec.ofChange journalsAgainSpec)) journalsAgainCard

/-- THE TIED CARD OF 'ganseylaw43.WorkshopsStart'. -/
def workshopsStartCard : Claim7 := { stood := { row := workshopsStartRow, standIns := [], harness := (true, "ee9ad1503645a8e1eaacd4d54a614bcd3552493b42419ef826b0d7641a5a1bcf"), looks := false }, kinds := [], alts := [], laidByText := true, laidKinds := [.data], laidTests := true, laidLooks := .later }
def WorkshopsStartCardSaid : Prop := Claim7.holds Tryz.pinned (.plain (OpenSpec.ofChange workshopsStartSpec)) workshopsStartCard

/-- THE SECOND FORM's CARD OF 'ganseylaw40.JournalsAgain'. -/
def journalsAgainUptoCard : Claim7 := { stood := { row := journalsAgainUptoRow, standIns := [], harness := (true, "ee9ad1503645a8e1eaacd4d54a614bcd3552493b42419ef826b0d7641a5a1bcf"), looks := false }, kinds := [], alts := [], laidByText := true, laidKinds := [.data], laidTests := true, laidLooks := .later }
def JournalsAgainUptoCardSaid : Prop := Claim7.holds Tryz.pinned (.plain (OpenSpec.upto journalsAgainSpec)) journalsAgainUptoCard

/-- THE SECOND FORM's CARD OF 'ganseylaw43.WorkshopsStart'. -/
def workshopsStartUptoCard : Claim7 := { stood := { row := workshopsStartUptoRow, standIns := [], harness := (true, "ee9ad1503645a8e1eaacd4d54a614bcd3552493b42419ef826b0d7641a5a1bcf"), looks := false }, kinds := [], alts := [], laidByText := true, laidKinds := [.data], laidTests := true, laidLooks := .later }
def WorkshopsStartUptoCardSaid : Prop := Claim7.holds Tryz.pinned (.plain (OpenSpec.upto workshopsStartSpec)) workshopsStartUptoCard
end Rows
end Go.Proofs.YtibkoahppjkakaaGreatDoor
