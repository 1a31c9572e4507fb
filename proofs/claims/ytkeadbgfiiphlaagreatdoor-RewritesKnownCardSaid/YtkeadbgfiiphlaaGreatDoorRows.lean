/-
  NARROWER THAN 'FOR EVERY INPUT', by the rows' own cells (each row's printed sentence says how): RewritesKnown: laid.
  DERIVED. THE GIVEN ROWS OF THIS SEAT. 1 by the template 'for every input the law returns true; each argument reads behind the call as it read before'; 0 by the template 'total and deterministic' (their statements: YtkeadbgfiiphlaaGreatDoorTotals.lean).
  GIVEN WITH THE SEED: the statements are not yours to turn. If you find one false, say at which input.
  Laid BY PROGRAM, IN A SANDBOX (cutbox-rows.mjs): the forced cells as the released guide's own fill.sh prints them over the translation 945e2d67f3207fab… (all of the seat's roots in one cut). By AI agents, Wed Nov 11 2026. No macro, syntax, notation, axiom, sorry.
-/
import Derived.Test.YtkeadbgfiiphlaaGreatDoorChecked
import GoSem.Claim
import GoSem.ClaimJoined
import GoSem.ClaimMapViews
import Derived.JoinedTies
import Derived.KernelRfl
namespace Go.Proofs.YtkeadbgfiiphlaaGreatDoor
/- THE CELL 'sum', in the pinned program and in every row, IS THE sha256 OF THE DUMP (.gsa) THAT YtkeadbgfiiphlaaGreatDoorProg.lean LOADS. Nothing in Lean hashes anything: it is a label: what it is worth is what the hold of that sum in a sandbox is worth. -/
noncomputable def Tryz.pinned : Pinned := { name := "ytkeadbgfiiphlaagreatdoor", sum := "945e2d67f3207fab8b4393077589d379194d1f3834dd08fb73bae5befc3fb598", checked := Tryz.checked }
namespace Rows
def none {H : Type} : Left H := { results := [], args := [] }

/- WHAT THE LISTED PACKAGE-LEVEL VARIABLES READ AS WHEN THE CALL BEGINS. Each datum BY PROGRAM (the guide's laid-datum.mjs) off the statement by which the dump's own 'gosem.cut.vars' lays the variable. In a bare row this is a premise. The card (YtkeadbgfiiphlaaGreatDoorCards.lean) ties it to the program's text. -/
def laid_gansey_orders_steps {H : Type} : DataW H := .agg [.lit (.int .i64 (-1)), .lit (.int .i64 1)]

/-- 'ganseylaw35.RewritesKnown': WHATEVER THE INPUT: true; the input reads as it did. -/
def rewritesKnownSpec : ChangeSpec := { name := "rewritesKnown", fn := fun _ => fun
  | [] => { results := [.lit (.bool true)], args := [] }
  | _ => none }
def rewritesKnownRow : OpenClaim := { program := "ytkeadbgfiiphlaagreatdoor", sum := "945e2d67f3207fab8b4393077589d379194d1f3834dd08fb73bae5befc3fb598", func := "gansey/ganseylaw35.RewritesKnown", spec := "rewritesKnown", unfollowed := true, recurses := true, named := ["gansey/orders.steps"], plainKeys := false, apart := false, laid := [("gansey/orders.steps", laid_gansey_orders_steps)] }
def RewritesKnownSaid : Prop := rewritesKnownRow.holds Tryz.pinned (OpenSpec.ofChange rewritesKnownSpec)

/-- ITS FALSE NEIGHBOUR: 'it returns false'. Refute it at one input. -/
def rewritesKnownWrong : ChangeSpec := { name := "rewritesKnown", fn := fun _ => fun
  | [] => { results := [.lit (.bool false)], args := [] }
  | _ => none }
def RewritesKnownWrongFalsely : Prop := rewritesKnownRow.holds Tryz.pinned (OpenSpec.ofChange rewritesKnownWrong)

/- THE SECOND FORM. 'bulk': how many values and letters a reading holds, each counted each time it is reached (what is shared counts as often as it is met; a slice's spare places count too). A statement '..UptoSaid' is the law's where the arguments, and the package variables that the reading takes, are together of bulk at most 1048576: NARROWER than '..Said'. Prove '..Said' where nothing that the law and all that it calls make is longer than what came in: it says more and counts as full. Else prove '..UptoSaid'. A law counts once. -/
mutual
def uptoBulk {H : Type} : DataW H → Nat
  | .lit (.string bytes) => bytes.length + 1
  | .lit _ => 1
  | .nil => 1
  | .ptr d => uptoBulk d + 1
  | .slice elems spare => uptoBulkAll elems + uptoBulkAll spare + 1
  | .agg parts => uptoBulkAll parts + 1
  | .iface _ d => uptoBulk d + 1
  | .map entries => uptoBulkEntries entries + 1
  | .held _ => 1
def uptoBulkAll {H : Type} : List (DataW H) → Nat
  | [] => 0
  | d :: r => uptoBulk d + uptoBulkAll r
def uptoBulkEntries {H : Type} : List (Lit × DataW H) → Nat
  | [] => 0
  | x :: r => uptoBulkEntry x + uptoBulkEntries r
def uptoBulkEntry {H : Type} : Lit × DataW H → Nat
  | (.string bytes, d) => bytes.length + uptoBulk d + 1
  | (_, d) => uptoBulk d + 1
 end
def uptoSmall : (H : Type) → List (DataW H) → Bool := fun _ ds => decide (uptoBulkAll ds ≤ 1048576)
def OpenSpec.upto (s : _root_.Go.ChangeSpec) : _root_.Go.OpenSpec := { _root_.Go.OpenSpec.ofChange s with cond := some uptoSmall }

/-- 'ganseylaw35.RewritesKnown', WHERE WHAT IT READS IS OF BULK AT MOST 1048576: true; the input reads as it did. -/
def rewritesKnownUptoRow : OpenClaim := { program := "ytkeadbgfiiphlaagreatdoor", sum := "945e2d67f3207fab8b4393077589d379194d1f3834dd08fb73bae5befc3fb598", func := "gansey/ganseylaw35.RewritesKnown", spec := "rewritesKnown", unfollowed := true, recurses := true, named := ["gansey/orders.steps"], plainKeys := false, apart := false, laid := [("gansey/orders.steps", laid_gansey_orders_steps)], narrowed := true }
def RewritesKnownUptoSaid : Prop := rewritesKnownUptoRow.holds Tryz.pinned (OpenSpec.upto rewritesKnownSpec)

end Rows
end Go.Proofs.YtkeadbgfiiphlaaGreatDoor
