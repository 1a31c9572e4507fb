/-
  NARROWER THAN 'FOR EVERY INPUT', by the rows' own cells (each row's printed sentence says how): TracesFree: laid · TracesCompare: laid.
  DERIVED. THE GIVEN ROWS OF THIS SEAT. 2 by the template 'for every input the law returns true; each argument reads behind the call as it read before'; 0 by the template 'total and deterministic' (their statements: YtnmkopfgfndhaaaGreatDoorTotals.lean).
  GIVEN WITH THE SEED: the statements are not yours to turn. If you find one false, say at which input.
  Laid BY PROGRAM, IN A SANDBOX (cutbox-rows.mjs): the forced cells as the released guide's own fill.sh prints them over the translation 1b523e8c87ffd743… (all of the seat's roots in one cut). By AI agents, Wed Nov 11 2026. No macro, syntax, notation, axiom, sorry.
-/
import Derived.Test.YtnmkopfgfndhaaaGreatDoorChecked
import GoSem.Claim
import GoSem.ClaimJoined
import GoSem.ClaimMapViews
import Derived.JoinedTies
import Derived.KernelRfl
namespace Go.Proofs.YtnmkopfgfndhaaaGreatDoor
/- THE CELL 'sum', in the pinned program and in every row, IS THE sha256 OF THE DUMP (.gsa) THAT YtnmkopfgfndhaaaGreatDoorProg.lean LOADS. Nothing in Lean hashes anything: it is a label: what it is worth is what the hold of that sum in a sandbox is worth. -/
noncomputable def Tryz.pinned : Pinned := { name := "ytnmkopfgfndhaaagreatdoor", sum := "1b523e8c87ffd743c061982be2722b94be02dae67a07ee51339d66f1ad11d64b", checked := Tryz.checked }
namespace Rows
def none {H : Type} : Left H := { results := [], args := [] }

/- WHAT THE LISTED PACKAGE-LEVEL VARIABLES READ AS WHEN THE CALL BEGINS. Each datum BY PROGRAM (the guide's laid-datum.mjs) off the statement by which the dump's own 'gosem.cut.vars' lays the variable. In a bare row this is a premise. The card (YtnmkopfgfndhaaaGreatDoorCards.lean) ties it to the program's text. -/
def laid_gansey_orders_steps {H : Type} : DataW H := .agg [.lit (.int .i64 (-1)), .lit (.int .i64 1)]

/-- 'ganseylaw34.TracesFree': WHATEVER THE INPUT: true; the input reads as it did. -/
def tracesFreeSpec : ChangeSpec := { name := "tracesFree", fn := fun _ => fun
  | [d1, d2] => { results := [.lit (.bool true)], args := [d1, d2] }
  | _ => none }
def tracesFreeRow : OpenClaim := { program := "ytnmkopfgfndhaaagreatdoor", sum := "1b523e8c87ffd743c061982be2722b94be02dae67a07ee51339d66f1ad11d64b", func := "gansey/ganseylaw34.TracesFree", spec := "tracesFree", unfollowed := true, recurses := true, named := ["gansey/orders.steps"], plainKeys := false, apart := false, laid := [("gansey/orders.steps", laid_gansey_orders_steps)] }
def TracesFreeSaid : Prop := tracesFreeRow.holds Tryz.pinned (OpenSpec.ofChange tracesFreeSpec)

/-- ITS FALSE NEIGHBOUR: 'it returns false'. Refute it at one input. -/
def tracesFreeWrong : ChangeSpec := { name := "tracesFree", fn := fun _ => fun
  | [d1, d2] => { results := [.lit (.bool false)], args := [d1, d2] }
  | _ => none }
def TracesFreeWrongFalsely : Prop := tracesFreeRow.holds Tryz.pinned (OpenSpec.ofChange tracesFreeWrong)

/-- 'ganseylaw34.TracesCompare': WHATEVER THE INPUT: true; the input reads as it did. -/
def tracesCompareSpec : ChangeSpec := { name := "tracesCompare", fn := fun _ => fun
  | [d1, d2, d3] => { results := [.lit (.bool true)], args := [d1, d2, d3] }
  | _ => none }
def tracesCompareRow : OpenClaim := { program := "ytnmkopfgfndhaaagreatdoor", sum := "1b523e8c87ffd743c061982be2722b94be02dae67a07ee51339d66f1ad11d64b", func := "gansey/ganseylaw34.TracesCompare", spec := "tracesCompare", unfollowed := true, recurses := true, named := ["gansey/orders.steps"], plainKeys := false, apart := false, laid := [("gansey/orders.steps", laid_gansey_orders_steps)] }
def TracesCompareSaid : Prop := tracesCompareRow.holds Tryz.pinned (OpenSpec.ofChange tracesCompareSpec)

/-- ITS FALSE NEIGHBOUR: 'it returns false'. Refute it at one input. -/
def tracesCompareWrong : ChangeSpec := { name := "tracesCompare", fn := fun _ => fun
  | [d1, d2, d3] => { results := [.lit (.bool false)], args := [d1, d2, d3] }
  | _ => none }
def TracesCompareWrongFalsely : Prop := tracesCompareRow.holds Tryz.pinned (OpenSpec.ofChange tracesCompareWrong)

/- THE SECOND FORM. 'bulk': how many values and letters a reading holds, each counted each time it is reached (what is shared counts as often as it is met; a slice's spare places count too). A statement '..UptoSaid' is the law's where the arguments, and the package variables that the reading takes, are together of bulk at most 1048576: NARROWER than '..Said'. Prove '..Said' where nothing that the law and all that it calls make is longer than what came in: it says more and counts as full. Else prove '..UptoSaid'. A law counts once. -/
mutual
def uptoBulk {H : Type} : DataW H → Nat
  | .lit (.string bytes) => bytes.length + 1
  | .lit _ => 1
  | .nil => 1
  | .ptr d => uptoBulk d + 1
  | .slice elems spare => uptoBulkAll elems + uptoBulkAll spare + 1
  | .agg parts => uptoBulkAll parts + 1
  | .iface _ d => uptoBulk d + 1
  | .map entries => uptoBulkEntries entries + 1
  | .held _ => 1
def uptoBulkAll {H : Type} : List (DataW H) → Nat
  | [] => 0
  | d :: r => uptoBulk d + uptoBulkAll r
def uptoBulkEntries {H : Type} : List (Lit × DataW H) → Nat
  | [] => 0
  | x :: r => uptoBulkEntry x + uptoBulkEntries r
def uptoBulkEntry {H : Type} : Lit × DataW H → Nat
  | (.string bytes, d) => bytes.length + uptoBulk d + 1
  | (_, d) => uptoBulk d + 1
 end
def uptoSmall : (H : Type) → List (DataW H) → Bool := fun _ ds => decide (uptoBulkAll ds ≤ 1048576)
def OpenSpec.upto (s : _root_.Go.ChangeSpec) : _root_.Go.OpenSpec := { _root_.Go.OpenSpec.ofChange s with cond := some uptoSmall }

/-- 'ganseylaw34.TracesFree', WHERE WHAT IT READS IS OF BULK AT MOST 1048576: true; the input reads as it did. -/
def tracesFreeUptoRow : OpenClaim := { program := "ytnmkopfgfndhaaagreatdoor", sum := "1b523e8c87ffd743c061982be2722b94be02dae67a07ee51339d66f1ad11d64b", func := "gansey/ganseylaw34.TracesFree", spec := "tracesFree", unfollowed := true, recurses := true, named := ["gansey/orders.steps"], plainKeys := false, apart := false, laid := [("gansey/orders.steps", laid_gansey_orders_steps)], narrowed := true }
def TracesFreeUptoSaid : Prop := tracesFreeUptoRow.holds Tryz.pinned (OpenSpec.upto tracesFreeSpec)

/-- 'ganseylaw34.TracesCompare', WHERE WHAT IT READS IS OF BULK AT MOST 1048576: true; the input reads as it did. -/
def tracesCompareUptoRow : OpenClaim := { program := "ytnmkopfgfndhaaagreatdoor", sum := "1b523e8c87ffd743c061982be2722b94be02dae67a07ee51339d66f1ad11d64b", func := "gansey/ganseylaw34.TracesCompare", spec := "tracesCompare", unfollowed := true, recurses := true, named := ["gansey/orders.steps"], plainKeys := false, apart := false, laid := [("gansey/orders.steps", laid_gansey_orders_steps)], narrowed := true }
def TracesCompareUptoSaid : Prop := tracesCompareUptoRow.holds Tryz.pinned (OpenSpec.upto tracesCompareSpec)

end Rows
end Go.Proofs.YtnmkopfgfndhaaaGreatDoor
