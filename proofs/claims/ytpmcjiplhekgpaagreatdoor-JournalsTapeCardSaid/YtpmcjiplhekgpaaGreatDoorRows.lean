/-
  NARROWER THAN 'FOR EVERY INPUT', by the rows' own cells (each row's printed sentence says how): JournalsTape: laid · CostsPercent: laid · CostsNumbers: laid · WorkshopsErrors: laid.
  DERIVED. THE GIVEN ROWS OF THIS SEAT. 4 by the template 'for every input the law returns true; each argument reads behind the call as it read before'; 0 by the template 'total and deterministic' (their statements: YtpmcjiplhekgpaaGreatDoorTotals.lean).
  GIVEN WITH THE SEED: the statements are not yours to turn. If you find one false, say at which input.
  Laid BY PROGRAM, IN A SANDBOX (cutbox-rows.mjs): the forced cells as the released guide's own fill.sh prints them over the translation 8c9cad84f61a5af7… (all of the seat's roots in one cut). By AI agents, Wed Nov 11 2026. No macro, syntax, notation, axiom, sorry.
-/
import Derived.Test.YtpmcjiplhekgpaaGreatDoorChecked
import GoSem.Claim
import GoSem.ClaimJoined
import GoSem.ClaimMapViews
import Derived.JoinedTies
import Derived.KernelRfl
namespace Go.Proofs.YtpmcjiplhekgpaaGreatDoor
/- THE CELL 'sum', in the pinned program and in every row, IS THE sha256 OF THE DUMP (.gsa) THAT YtpmcjiplhekgpaaGreatDoorProg.lean LOADS. Nothing in Lean hashes anything: it is a label: what it is worth is what the hold of that sum in a sandbox is worth. -/
noncomputable def Tryz.pinned : Pinned := { name := "ytpmcjiplhekgpaagreatdoor", sum := "8c9cad84f61a5af7f3f164c626cd14782c03c887a39af126766fa89e032ad98d", checked := Tryz.checked }
namespace Rows
def none {H : Type} : Left H := { results := [], args := [] }

/- WHAT THE LISTED PACKAGE-LEVEL VARIABLES READ AS WHEN THE CALL BEGINS. Each datum BY PROGRAM (the guide's laid-datum.mjs) off the statement by which the dump's own 'gosem.cut.vars' lays the variable. In a bare row this is a premise. The card (YtpmcjiplhekgpaaGreatDoorCards.lean) ties it to the program's text. -/
def laid_gansey_orders_steps {H : Type} : DataW H := .agg [.lit (.int .i64 (-1)), .lit (.int .i64 1)]

/-- 'ganseylaw40.JournalsTape': WHATEVER THE INPUT: true; the input reads as it did. -/
def journalsTapeSpec : ChangeSpec := { name := "journalsTape", fn := fun _ => fun
  | [d1, d2, d3] => { results := [.lit (.bool true)], args := [d1, d2, d3] }
  | _ => none }
def journalsTapeRow : OpenClaim := { program := "ytpmcjiplhekgpaagreatdoor", sum := "8c9cad84f61a5af7f3f164c626cd14782c03c887a39af126766fa89e032ad98d", func := "gansey/ganseylaw40.JournalsTape", spec := "journalsTape", unfollowed := true, recurses := true, named := ["gansey/orders.steps"], plainKeys := false, apart := false, laid := [("gansey/orders.steps", laid_gansey_orders_steps)] }
def JournalsTapeSaid : Prop := journalsTapeRow.holds Tryz.pinned (OpenSpec.ofChange journalsTapeSpec)

/-- ITS FALSE NEIGHBOUR: 'it returns false'. Refute it at one input. -/
def journalsTapeWrong : ChangeSpec := { name := "journalsTape", fn := fun _ => fun
  | [d1, d2, d3] => { results := [.lit (.bool false)], args := [d1, d2, d3] }
  | _ => none }
def JournalsTapeWrongFalsely : Prop := journalsTapeRow.holds Tryz.pinned (OpenSpec.ofChange journalsTapeWrong)

/-- 'ganseylaw38.CostsPercent': WHATEVER THE INPUT: true; the input reads as it did. -/
def costsPercentSpec : ChangeSpec := { name := "costsPercent", fn := fun _ => fun
  | [d1, d2] => { results := [.lit (.bool true)], args := [d1, d2] }
  | _ => none }
def costsPercentRow : OpenClaim := { program := "ytpmcjiplhekgpaagreatdoor", sum := "8c9cad84f61a5af7f3f164c626cd14782c03c887a39af126766fa89e032ad98d", func := "gansey/ganseylaw38.CostsPercent", spec := "costsPercent", unfollowed := true, recurses := true, named := ["gansey/orders.steps"], plainKeys := false, apart := false, laid := [("gansey/orders.steps", laid_gansey_orders_steps)] }
def CostsPercentSaid : Prop := costsPercentRow.holds Tryz.pinned (OpenSpec.ofChange costsPercentSpec)

/-- ITS FALSE NEIGHBOUR: 'it returns false'. Refute it at one input. -/
def costsPercentWrong : ChangeSpec := { name := "costsPercent", fn := fun _ => fun
  | [d1, d2] => { results := [.lit (.bool false)], args := [d1, d2] }
  | _ => none }
def CostsPercentWrongFalsely : Prop := costsPercentRow.holds Tryz.pinned (OpenSpec.ofChange costsPercentWrong)

/-- 'ganseylaw38.CostsNumbers': WHATEVER THE INPUT: true; the input reads as it did. -/
def costsNumbersSpec : ChangeSpec := { name := "costsNumbers", fn := fun _ => fun
  | [d1, d2, d3] => { results := [.lit (.bool true)], args := [d1, d2, d3] }
  | _ => none }
def costsNumbersRow : OpenClaim := { program := "ytpmcjiplhekgpaagreatdoor", sum := "8c9cad84f61a5af7f3f164c626cd14782c03c887a39af126766fa89e032ad98d", func := "gansey/ganseylaw38.CostsNumbers", spec := "costsNumbers", unfollowed := true, recurses := true, named := ["gansey/orders.steps"], plainKeys := false, apart := false, laid := [("gansey/orders.steps", laid_gansey_orders_steps)] }
def CostsNumbersSaid : Prop := costsNumbersRow.holds Tryz.pinned (OpenSpec.ofChange costsNumbersSpec)

/-- ITS FALSE NEIGHBOUR: 'it returns false'. Refute it at one input. -/
def costsNumbersWrong : ChangeSpec := { name := "costsNumbers", fn := fun _ => fun
  | [d1, d2, d3] => { results := [.lit (.bool false)], args := [d1, d2, d3] }
  | _ => none }
def CostsNumbersWrongFalsely : Prop := costsNumbersRow.holds Tryz.pinned (OpenSpec.ofChange costsNumbersWrong)

/-- 'ganseylaw43.WorkshopsErrors': WHATEVER THE INPUT: true; the input reads as it did. -/
def workshopsErrorsSpec : ChangeSpec := { name := "workshopsErrors", fn := fun _ => fun
  | [d1, d2, d3] => { results := [.lit (.bool true)], args := [d1, d2, d3] }
  | _ => none }
def workshopsErrorsRow : OpenClaim := { program := "ytpmcjiplhekgpaagreatdoor", sum := "8c9cad84f61a5af7f3f164c626cd14782c03c887a39af126766fa89e032ad98d", func := "gansey/ganseylaw43.WorkshopsErrors", spec := "workshopsErrors", unfollowed := true, recurses := true, named := ["gansey/orders.steps"], plainKeys := false, apart := false, laid := [("gansey/orders.steps", laid_gansey_orders_steps)] }
def WorkshopsErrorsSaid : Prop := workshopsErrorsRow.holds Tryz.pinned (OpenSpec.ofChange workshopsErrorsSpec)

/-- ITS FALSE NEIGHBOUR: 'it returns false'. Refute it at one input. -/
def workshopsErrorsWrong : ChangeSpec := { name := "workshopsErrors", fn := fun _ => fun
  | [d1, d2, d3] => { results := [.lit (.bool false)], args := [d1, d2, d3] }
  | _ => none }
def WorkshopsErrorsWrongFalsely : Prop := workshopsErrorsRow.holds Tryz.pinned (OpenSpec.ofChange workshopsErrorsWrong)

/- THE SECOND FORM. 'bulk': how many values and letters a reading holds, each counted each time it is reached (what is shared counts as often as it is met; a slice's spare places count too). A statement '..UptoSaid' is the law's where the arguments, and the package variables that the reading takes, are together of bulk at most 1048576: NARROWER than '..Said'. Prove '..Said' where nothing that the law and all that it calls make is longer than what came in: it says more and counts as full. Else prove '..UptoSaid'. A law counts once. -/
mutual
def uptoBulk {H : Type} : DataW H → Nat
  | .lit (.string bytes) => bytes.length + 1
  | .lit _ => 1
  | .nil => 1
  | .ptr d => uptoBulk d + 1
  | .slice elems spare => uptoBulkAll elems + uptoBulkAll spare + 1
  | .agg parts => uptoBulkAll parts + 1
  | .iface _ d => uptoBulk d + 1
  | .map entries => uptoBulkEntries entries + 1
  | .held _ => 1
def uptoBulkAll {H : Type} : List (DataW H) → Nat
  | [] => 0
  | d :: r => uptoBulk d + uptoBulkAll r
def uptoBulkEntries {H : Type} : List (Lit × DataW H) → Nat
  | [] => 0
  | x :: r => uptoBulkEntry x + uptoBulkEntries r
def uptoBulkEntry {H : Type} : Lit × DataW H → Nat
  | (.string bytes, d) => bytes.length + uptoBulk d + 1
  | (_, d) => uptoBulk d + 1
 end
def uptoSmall : (H : Type) → List (DataW H) → Bool := fun _ ds => decide (uptoBulkAll ds ≤ 1048576)
def OpenSpec.upto (s : _root_.Go.ChangeSpec) : _root_.Go.OpenSpec := { _root_.Go.OpenSpec.ofChange s with cond := some uptoSmall }

/-- 'ganseylaw40.JournalsTape', WHERE WHAT IT READS IS OF BULK AT MOST 1048576: true; the input reads as it did. -/
def journalsTapeUptoRow : OpenClaim := { program := "ytpmcjiplhekgpaagreatdoor", sum := "8c9cad84f61a5af7f3f164c626cd14782c03c887a39af126766fa89e032ad98d", func := "gansey/ganseylaw40.JournalsTape", spec := "journalsTape", unfollowed := true, recurses := true, named := ["gansey/orders.steps"], plainKeys := false, apart := false, laid := [("gansey/orders.steps", laid_gansey_orders_steps)], narrowed := true }
def JournalsTapeUptoSaid : Prop := journalsTapeUptoRow.holds Tryz.pinned (OpenSpec.upto journalsTapeSpec)

/-- 'ganseylaw38.CostsPercent', WHERE WHAT IT READS IS OF BULK AT MOST 1048576: true; the input reads as it did. -/
def costsPercentUptoRow : OpenClaim := { program := "ytpmcjiplhekgpaagreatdoor", sum := "8c9cad84f61a5af7f3f164c626cd14782c03c887a39af126766fa89e032ad98d", func := "gansey/ganseylaw38.CostsPercent", spec := "costsPercent", unfollowed := true, recurses := true, named := ["gansey/orders.steps"], plainKeys := false, apart := false, laid := [("gansey/orders.steps", laid_gansey_orders_steps)], narrowed := true }
def CostsPercentUptoSaid : Prop := costsPercentUptoRow.holds Tryz.pinned (OpenSpec.upto costsPercentSpec)

/-- 'ganseylaw38.CostsNumbers', WHERE WHAT IT READS IS OF BULK AT MOST 1048576: true; the input reads as it did. -/
def costsNumbersUptoRow : OpenClaim := { program := "ytpmcjiplhekgpaagreatdoor", sum := "8c9cad84f61a5af7f3f164c626cd14782c03c887a39af126766fa89e032ad98d", func := "gansey/ganseylaw38.CostsNumbers", spec := "costsNumbers", unfollowed := true, recurses := true, named := ["gansey/orders.steps"], plainKeys := false, apart := false, laid := [("gansey/orders.steps", laid_gansey_orders_steps)], narrowed := true }
def CostsNumbersUptoSaid : Prop := costsNumbersUptoRow.holds Tryz.pinned (OpenSpec.upto costsNumbersSpec)

/-- 'ganseylaw43.WorkshopsErrors', WHERE WHAT IT READS IS OF BULK AT MOST 1048576: true; the input reads as it did. -/
def workshopsErrorsUptoRow : OpenClaim := { program := "ytpmcjiplhekgpaagreatdoor", sum := "8c9cad84f61a5af7f3f164c626cd14782c03c887a39af126766fa89e032ad98d", func := "gansey/ganseylaw43.WorkshopsErrors", spec := "workshopsErrors", unfollowed := true, recurses := true, named := ["gansey/orders.steps"], plainKeys := false, apart := false, laid := [("gansey/orders.steps", laid_gansey_orders_steps)], narrowed := true }
def WorkshopsErrorsUptoSaid : Prop := workshopsErrorsUptoRow.holds Tryz.pinned (OpenSpec.upto workshopsErrorsSpec)

end Rows
end Go.Proofs.YtpmcjiplhekgpaaGreatDoor
