/-
  NARROWER THAN 'FOR EVERY INPUT', by the rows' own cells (each row's printed sentence says how): RewritesPlaces: laid · CostsOf: laid · OptimisersBetter: laid · CostsBehind: laid · RewritesKeep: laid · RewritesReduce: laid.
  DERIVED. THE GIVEN ROWS OF THIS SEAT. 6 by the template 'for every input the law returns true; each argument reads behind the call as it read before'; 0 by the template 'total and deterministic' (their statements: YtiofebdpgbojmaaGreatDoorTotals.lean).
  GIVEN WITH THE SEED: the statements are not yours to turn. If you find one false, say at which input.
  Laid BY PROGRAM, IN A SANDBOX (cutbox-rows.mjs): the forced cells as the released guide's own fill.sh prints them over the translation 45094aa188901da3… (all of the seat's roots in one cut). By AI agents, Wed Nov 11 2026. No macro, syntax, notation, axiom, sorry.
-/
import Derived.Test.YtiofebdpgbojmaaGreatDoorChecked
import GoSem.Claim
import GoSem.ClaimJoined
import GoSem.ClaimMapViews
import Derived.JoinedTies
import Derived.KernelRfl
namespace Go.Proofs.YtiofebdpgbojmaaGreatDoor
/- THE CELL 'sum', in the pinned program and in every row, IS THE sha256 OF THE DUMP (.gsa) THAT YtiofebdpgbojmaaGreatDoorProg.lean LOADS. Nothing in Lean hashes anything: it is a label: what it is worth is what the hold of that sum in a sandbox is worth. -/
noncomputable def Tryz.pinned : Pinned := { name := "ytiofebdpgbojmaagreatdoor", sum := "45094aa188901da3ecc1da73402ab7f8926cac24b0175249d9561f8de3ee2259", checked := Tryz.checked }
namespace Rows
def none {H : Type} : Left H := { results := [], args := [] }

/- WHAT THE LISTED PACKAGE-LEVEL VARIABLES READ AS WHEN THE CALL BEGINS. Each datum BY PROGRAM (the guide's laid-datum.mjs) off the statement by which the dump's own 'gosem.cut.vars' lays the variable. In a bare row this is a premise. The card (YtiofebdpgbojmaaGreatDoorCards.lean) ties it to the program's text. -/
def laid_gansey_orders_steps {H : Type} : DataW H := .agg [.lit (.int .i64 (-1)), .lit (.int .i64 1)]

/-- 'ganseylaw35.RewritesPlaces': WHATEVER THE INPUT: true; the input reads as it did. -/
def rewritesPlacesSpec : ChangeSpec := { name := "rewritesPlaces", fn := fun _ => fun
  | [d1, d2] => { results := [.lit (.bool true)], args := [d1, d2] }
  | _ => none }
def rewritesPlacesRow : OpenClaim := { program := "ytiofebdpgbojmaagreatdoor", sum := "45094aa188901da3ecc1da73402ab7f8926cac24b0175249d9561f8de3ee2259", func := "gansey/ganseylaw35.RewritesPlaces", spec := "rewritesPlaces", unfollowed := true, recurses := true, named := ["gansey/orders.steps"], plainKeys := false, apart := false, laid := [("gansey/orders.steps", laid_gansey_orders_steps)] }
def RewritesPlacesSaid : Prop := rewritesPlacesRow.holds Tryz.pinned (OpenSpec.ofChange rewritesPlacesSpec)

/-- ITS FALSE NEIGHBOUR: 'it returns false'. Refute it at one input. -/
def rewritesPlacesWrong : ChangeSpec := { name := "rewritesPlaces", fn := fun _ => fun
  | [d1, d2] => { results := [.lit (.bool false)], args := [d1, d2] }
  | _ => none }
def RewritesPlacesWrongFalsely : Prop := rewritesPlacesRow.holds Tryz.pinned (OpenSpec.ofChange rewritesPlacesWrong)

/-- 'ganseylaw38.CostsOf': WHATEVER THE INPUT: true; the input reads as it did. -/
def costsOfSpec : ChangeSpec := { name := "costsOf", fn := fun _ => fun
  | [d] => { results := [.lit (.bool true)], args := [d] }
  | _ => none }
def costsOfRow : OpenClaim := { program := "ytiofebdpgbojmaagreatdoor", sum := "45094aa188901da3ecc1da73402ab7f8926cac24b0175249d9561f8de3ee2259", func := "gansey/ganseylaw38.CostsOf", spec := "costsOf", unfollowed := true, recurses := true, named := ["gansey/orders.steps"], plainKeys := false, apart := false, laid := [("gansey/orders.steps", laid_gansey_orders_steps)] }
def CostsOfSaid : Prop := costsOfRow.holds Tryz.pinned (OpenSpec.ofChange costsOfSpec)

/-- ITS FALSE NEIGHBOUR: 'it returns false'. Refute it at one input. -/
def costsOfWrong : ChangeSpec := { name := "costsOf", fn := fun _ => fun
  | [d] => { results := [.lit (.bool false)], args := [d] }
  | _ => none }
def CostsOfWrongFalsely : Prop := costsOfRow.holds Tryz.pinned (OpenSpec.ofChange costsOfWrong)

/-- 'ganseylaw36.OptimisersBetter': WHATEVER THE INPUT: true; the input reads as it did. -/
def optimisersBetterSpec : ChangeSpec := { name := "optimisersBetter", fn := fun _ => fun
  | [d1, d2] => { results := [.lit (.bool true)], args := [d1, d2] }
  | _ => none }
def optimisersBetterRow : OpenClaim := { program := "ytiofebdpgbojmaagreatdoor", sum := "45094aa188901da3ecc1da73402ab7f8926cac24b0175249d9561f8de3ee2259", func := "gansey/ganseylaw36.OptimisersBetter", spec := "optimisersBetter", inPlace := ["slices.overlaps[int]"], unfollowed := true, recurses := true, named := ["gansey/orders.steps"], plainKeys := false, apart := false, laid := [("gansey/orders.steps", laid_gansey_orders_steps)] }
def OptimisersBetterSaid : Prop := optimisersBetterRow.holds Tryz.pinned (OpenSpec.ofChange optimisersBetterSpec)

/-- ITS FALSE NEIGHBOUR: 'it returns false'. Refute it at one input. -/
def optimisersBetterWrong : ChangeSpec := { name := "optimisersBetter", fn := fun _ => fun
  | [d1, d2] => { results := [.lit (.bool false)], args := [d1, d2] }
  | _ => none }
def OptimisersBetterWrongFalsely : Prop := optimisersBetterRow.holds Tryz.pinned (OpenSpec.ofChange optimisersBetterWrong)

/-- 'ganseylaw38.CostsBehind': WHATEVER THE INPUT: true; the input reads as it did. -/
def costsBehindSpec : ChangeSpec := { name := "costsBehind", fn := fun _ => fun
  | [d1, d2] => { results := [.lit (.bool true)], args := [d1, d2] }
  | _ => none }
def costsBehindRow : OpenClaim := { program := "ytiofebdpgbojmaagreatdoor", sum := "45094aa188901da3ecc1da73402ab7f8926cac24b0175249d9561f8de3ee2259", func := "gansey/ganseylaw38.CostsBehind", spec := "costsBehind", unfollowed := true, recurses := true, named := ["gansey/orders.steps"], plainKeys := false, apart := false, laid := [("gansey/orders.steps", laid_gansey_orders_steps)] }
def CostsBehindSaid : Prop := costsBehindRow.holds Tryz.pinned (OpenSpec.ofChange costsBehindSpec)

/-- ITS FALSE NEIGHBOUR: 'it returns false'. Refute it at one input. -/
def costsBehindWrong : ChangeSpec := { name := "costsBehind", fn := fun _ => fun
  | [d1, d2] => { results := [.lit (.bool false)], args := [d1, d2] }
  | _ => none }
def CostsBehindWrongFalsely : Prop := costsBehindRow.holds Tryz.pinned (OpenSpec.ofChange costsBehindWrong)

/-- 'ganseylaw35.RewritesKeep': WHATEVER THE INPUT: true; the input reads as it did. -/
def rewritesKeepSpec : ChangeSpec := { name := "rewritesKeep", fn := fun _ => fun
  | [d] => { results := [.lit (.bool true)], args := [d] }
  | _ => none }
def rewritesKeepRow : OpenClaim := { program := "ytiofebdpgbojmaagreatdoor", sum := "45094aa188901da3ecc1da73402ab7f8926cac24b0175249d9561f8de3ee2259", func := "gansey/ganseylaw35.RewritesKeep", spec := "rewritesKeep", unfollowed := true, recurses := true, named := ["gansey/orders.steps"], plainKeys := false, apart := false, laid := [("gansey/orders.steps", laid_gansey_orders_steps)] }
def RewritesKeepSaid : Prop := rewritesKeepRow.holds Tryz.pinned (OpenSpec.ofChange rewritesKeepSpec)

/-- ITS FALSE NEIGHBOUR: 'it returns false'. Refute it at one input. -/
def rewritesKeepWrong : ChangeSpec := { name := "rewritesKeep", fn := fun _ => fun
  | [d] => { results := [.lit (.bool false)], args := [d] }
  | _ => none }
def RewritesKeepWrongFalsely : Prop := rewritesKeepRow.holds Tryz.pinned (OpenSpec.ofChange rewritesKeepWrong)

/-- 'ganseylaw35.RewritesReduce': WHATEVER THE INPUT: true; the input reads as it did. -/
def rewritesReduceSpec : ChangeSpec := { name := "rewritesReduce", fn := fun _ => fun
  | [d] => { results := [.lit (.bool true)], args := [d] }
  | _ => none }
def rewritesReduceRow : OpenClaim := { program := "ytiofebdpgbojmaagreatdoor", sum := "45094aa188901da3ecc1da73402ab7f8926cac24b0175249d9561f8de3ee2259", func := "gansey/ganseylaw35.RewritesReduce", spec := "rewritesReduce", unfollowed := true, recurses := true, named := ["gansey/orders.steps"], plainKeys := false, apart := false, laid := [("gansey/orders.steps", laid_gansey_orders_steps)] }
def RewritesReduceSaid : Prop := rewritesReduceRow.holds Tryz.pinned (OpenSpec.ofChange rewritesReduceSpec)

/-- ITS FALSE NEIGHBOUR: 'it returns false'. Refute it at one input. -/
def rewritesReduceWrong : ChangeSpec := { name := "rewritesReduce", fn := fun _ => fun
  | [d] => { results := [.lit (.bool false)], args := [d] }
  | _ => none }
def RewritesReduceWrongFalsely : Prop := rewritesReduceRow.holds Tryz.pinned (OpenSpec.ofChange rewritesReduceWrong)

/- THE SECOND FORM. 'bulk': how many values and letters a reading holds, each counted each time it is reached (what is shared counts as often as it is met; a slice's spare places count too). A statement '..UptoSaid' is the law's where the arguments, and the package variables that the reading takes, are together of bulk at most 1048576: NARROWER than '..Said'. Prove '..Said' where nothing that the law and all that it calls make is longer than what came in: it says more and counts as full. Else prove '..UptoSaid'. A law counts once. -/
mutual
def uptoBulk {H : Type} : DataW H → Nat
  | .lit (.string bytes) => bytes.length + 1
  | .lit _ => 1
  | .nil => 1
  | .ptr d => uptoBulk d + 1
  | .slice elems spare => uptoBulkAll elems + uptoBulkAll spare + 1
  | .agg parts => uptoBulkAll parts + 1
  | .iface _ d => uptoBulk d + 1
  | .map entries => uptoBulkEntries entries + 1
  | .held _ => 1
def uptoBulkAll {H : Type} : List (DataW H) → Nat
  | [] => 0
  | d :: r => uptoBulk d + uptoBulkAll r
def uptoBulkEntries {H : Type} : List (Lit × DataW H) → Nat
  | [] => 0
  | x :: r => uptoBulkEntry x + uptoBulkEntries r
def uptoBulkEntry {H : Type} : Lit × DataW H → Nat
  | (.string bytes, d) => bytes.length + uptoBulk d + 1
  | (_, d) => uptoBulk d + 1
 end
def uptoSmall : (H : Type) → List (DataW H) → Bool := fun _ ds => decide (uptoBulkAll ds ≤ 1048576)
def OpenSpec.upto (s : _root_.Go.ChangeSpec) : _root_.Go.OpenSpec := { _root_.Go.OpenSpec.ofChange s with cond := some uptoSmall }

/-- 'ganseylaw35.RewritesPlaces', WHERE WHAT IT READS IS OF BULK AT MOST 1048576: true; the input reads as it did. -/
def rewritesPlacesUptoRow : OpenClaim := { program := "ytiofebdpgbojmaagreatdoor", sum := "45094aa188901da3ecc1da73402ab7f8926cac24b0175249d9561f8de3ee2259", func := "gansey/ganseylaw35.RewritesPlaces", spec := "rewritesPlaces", unfollowed := true, recurses := true, named := ["gansey/orders.steps"], plainKeys := false, apart := false, laid := [("gansey/orders.steps", laid_gansey_orders_steps)], narrowed := true }
def RewritesPlacesUptoSaid : Prop := rewritesPlacesUptoRow.holds Tryz.pinned (OpenSpec.upto rewritesPlacesSpec)

/-- 'ganseylaw38.CostsOf', WHERE WHAT IT READS IS OF BULK AT MOST 1048576: true; the input reads as it did. -/
def costsOfUptoRow : OpenClaim := { program := "ytiofebdpgbojmaagreatdoor", sum := "45094aa188901da3ecc1da73402ab7f8926cac24b0175249d9561f8de3ee2259", func := "gansey/ganseylaw38.CostsOf", spec := "costsOf", unfollowed := true, recurses := true, named := ["gansey/orders.steps"], plainKeys := false, apart := false, laid := [("gansey/orders.steps", laid_gansey_orders_steps)], narrowed := true }
def CostsOfUptoSaid : Prop := costsOfUptoRow.holds Tryz.pinned (OpenSpec.upto costsOfSpec)

/-- 'ganseylaw36.OptimisersBetter', WHERE WHAT IT READS IS OF BULK AT MOST 1048576: true; the input reads as it did. -/
def optimisersBetterUptoRow : OpenClaim := { program := "ytiofebdpgbojmaagreatdoor", sum := "45094aa188901da3ecc1da73402ab7f8926cac24b0175249d9561f8de3ee2259", func := "gansey/ganseylaw36.OptimisersBetter", spec := "optimisersBetter", inPlace := ["slices.overlaps[int]"], unfollowed := true, recurses := true, named := ["gansey/orders.steps"], plainKeys := false, apart := false, laid := [("gansey/orders.steps", laid_gansey_orders_steps)], narrowed := true }
def OptimisersBetterUptoSaid : Prop := optimisersBetterUptoRow.holds Tryz.pinned (OpenSpec.upto optimisersBetterSpec)

/-- 'ganseylaw38.CostsBehind', WHERE WHAT IT READS IS OF BULK AT MOST 1048576: true; the input reads as it did. -/
def costsBehindUptoRow : OpenClaim := { program := "ytiofebdpgbojmaagreatdoor", sum := "45094aa188901da3ecc1da73402ab7f8926cac24b0175249d9561f8de3ee2259", func := "gansey/ganseylaw38.CostsBehind", spec := "costsBehind", unfollowed := true, recurses := true, named := ["gansey/orders.steps"], plainKeys := false, apart := false, laid := [("gansey/orders.steps", laid_gansey_orders_steps)], narrowed := true }
def CostsBehindUptoSaid : Prop := costsBehindUptoRow.holds Tryz.pinned (OpenSpec.upto costsBehindSpec)

/-- 'ganseylaw35.RewritesKeep', WHERE WHAT IT READS IS OF BULK AT MOST 1048576: true; the input reads as it did. -/
def rewritesKeepUptoRow : OpenClaim := { program := "ytiofebdpgbojmaagreatdoor", sum := "45094aa188901da3ecc1da73402ab7f8926cac24b0175249d9561f8de3ee2259", func := "gansey/ganseylaw35.RewritesKeep", spec := "rewritesKeep", unfollowed := true, recurses := true, named := ["gansey/orders.steps"], plainKeys := false, apart := false, laid := [("gansey/orders.steps", laid_gansey_orders_steps)], narrowed := true }
def RewritesKeepUptoSaid : Prop := rewritesKeepUptoRow.holds Tryz.pinned (OpenSpec.upto rewritesKeepSpec)

/-- 'ganseylaw35.RewritesReduce', WHERE WHAT IT READS IS OF BULK AT MOST 1048576: true; the input reads as it did. -/
def rewritesReduceUptoRow : OpenClaim := { program := "ytiofebdpgbojmaagreatdoor", sum := "45094aa188901da3ecc1da73402ab7f8926cac24b0175249d9561f8de3ee2259", func := "gansey/ganseylaw35.RewritesReduce", spec := "rewritesReduce", unfollowed := true, recurses := true, named := ["gansey/orders.steps"], plainKeys := false, apart := false, laid := [("gansey/orders.steps", laid_gansey_orders_steps)], narrowed := true }
def RewritesReduceUptoSaid : Prop := rewritesReduceUptoRow.holds Tryz.pinned (OpenSpec.upto rewritesReduceSpec)

end Rows
end Go.Proofs.YtiofebdpgbojmaaGreatDoor
