/-
  NARROWER THAN 'FOR EVERY INPUT', by the rows' own cells (each row's printed sentence says how): WorkshopsStart: laid · WorkshopsFabric: laid · WorkshopsKnown: laid.
  DERIVED. THE GIVEN ROWS OF THIS SEAT. 3 by the template 'for every input the law returns true; each argument reads behind the call as it read before'; 0 by the template 'total and deterministic' (their statements: YtcliokpfogcphaaGreatDoorTotals.lean).
  GIVEN WITH THE SEED: the statements are not yours to turn. If you find one false, say at which input.
  Laid BY PROGRAM, IN A SANDBOX (cutbox-rows.mjs): the forced cells as the released guide's own fill.sh prints them over the translation 421579e0d07687ea… (all of the seat's roots in one cut). By AI agents, Wed Nov 11 2026. No macro, syntax, notation, axiom, sorry.
-/
import Derived.Test.YtcliokpfogcphaaGreatDoorChecked
import GoSem.Claim
import GoSem.ClaimJoined
import GoSem.ClaimMapViews
import Derived.JoinedTies
import Derived.KernelRfl
namespace Go.Proofs.YtcliokpfogcphaaGreatDoor
/- THE CELL 'sum', in the pinned program and in every row, IS THE sha256 OF THE DUMP (.gsa) THAT YtcliokpfogcphaaGreatDoorProg.lean LOADS. Nothing in Lean hashes anything: it is a label: what it is worth is what the hold of that sum in a sandbox is worth. -/
noncomputable def Tryz.pinned : Pinned := { name := "ytcliokpfogcphaagreatdoor", sum := "421579e0d07687ea320d6072448b993737cf06a55bf6025049291cedeaae22c1", checked := Tryz.checked }
namespace Rows
def none {H : Type} : Left H := { results := [], args := [] }

/- WHAT THE LISTED PACKAGE-LEVEL VARIABLES READ AS WHEN THE CALL BEGINS. Each datum BY PROGRAM (the guide's laid-datum.mjs) off the statement by which the dump's own 'gosem.cut.vars' lays the variable. In a bare row this is a premise. The card (YtcliokpfogcphaaGreatDoorCards.lean) ties it to the program's text. -/
def laid_gansey_orders_steps {H : Type} : DataW H := .agg [.lit (.int .i64 (-1)), .lit (.int .i64 1)]

/-- 'ganseylaw43.WorkshopsStart': WHATEVER THE INPUT: true; the input reads as it did. -/
def workshopsStartSpec : ChangeSpec := { name := "workshopsStart", fn := fun _ => fun
  | [d1, d2, d3] => { results := [.lit (.bool true)], args := [d1, d2, d3] }
  | _ => none }
def workshopsStartRow : OpenClaim := { program := "ytcliokpfogcphaagreatdoor", sum := "421579e0d07687ea320d6072448b993737cf06a55bf6025049291cedeaae22c1", func := "gansey/ganseylaw43.WorkshopsStart", spec := "workshopsStart", unfollowed := true, recurses := true, named := ["gansey/orders.steps"], plainKeys := false, apart := false, laid := [("gansey/orders.steps", laid_gansey_orders_steps)] }
def WorkshopsStartSaid : Prop := workshopsStartRow.holds Tryz.pinned (OpenSpec.ofChange workshopsStartSpec)

/-- ITS FALSE NEIGHBOUR: 'it returns false'. Refute it at one input. -/
def workshopsStartWrong : ChangeSpec := { name := "workshopsStart", fn := fun _ => fun
  | [d1, d2, d3] => { results := [.lit (.bool false)], args := [d1, d2, d3] }
  | _ => none }
def WorkshopsStartWrongFalsely : Prop := workshopsStartRow.holds Tryz.pinned (OpenSpec.ofChange workshopsStartWrong)

/-- 'ganseylaw43.WorkshopsFabric': WHATEVER THE INPUT: true; the input reads as it did. -/
def workshopsFabricSpec : ChangeSpec := { name := "workshopsFabric", fn := fun _ => fun
  | [d1, d2] => { results := [.lit (.bool true)], args := [d1, d2] }
  | _ => none }
def workshopsFabricRow : OpenClaim := { program := "ytcliokpfogcphaagreatdoor", sum := "421579e0d07687ea320d6072448b993737cf06a55bf6025049291cedeaae22c1", func := "gansey/ganseylaw43.WorkshopsFabric", spec := "workshopsFabric", unfollowed := true, recurses := true, named := ["gansey/orders.steps"], plainKeys := false, apart := false, laid := [("gansey/orders.steps", laid_gansey_orders_steps)] }
def WorkshopsFabricSaid : Prop := workshopsFabricRow.holds Tryz.pinned (OpenSpec.ofChange workshopsFabricSpec)

/-- ITS FALSE NEIGHBOUR: 'it returns false'. Refute it at one input. -/
def workshopsFabricWrong : ChangeSpec := { name := "workshopsFabric", fn := fun _ => fun
  | [d1, d2] => { results := [.lit (.bool false)], args := [d1, d2] }
  | _ => none }
def WorkshopsFabricWrongFalsely : Prop := workshopsFabricRow.holds Tryz.pinned (OpenSpec.ofChange workshopsFabricWrong)

/-- 'ganseylaw43.WorkshopsKnown': WHATEVER THE INPUT: true; the input reads as it did. -/
def workshopsKnownSpec : ChangeSpec := { name := "workshopsKnown", fn := fun _ => fun
  | [] => { results := [.lit (.bool true)], args := [] }
  | _ => none }
def workshopsKnownRow : OpenClaim := { program := "ytcliokpfogcphaagreatdoor", sum := "421579e0d07687ea320d6072448b993737cf06a55bf6025049291cedeaae22c1", func := "gansey/ganseylaw43.WorkshopsKnown", spec := "workshopsKnown", unfollowed := true, recurses := true, named := ["gansey/orders.steps"], plainKeys := false, apart := false, laid := [("gansey/orders.steps", laid_gansey_orders_steps)] }
def WorkshopsKnownSaid : Prop := workshopsKnownRow.holds Tryz.pinned (OpenSpec.ofChange workshopsKnownSpec)

/-- ITS FALSE NEIGHBOUR: 'it returns false'. Refute it at one input. -/
def workshopsKnownWrong : ChangeSpec := { name := "workshopsKnown", fn := fun _ => fun
  | [] => { results := [.lit (.bool false)], args := [] }
  | _ => none }
def WorkshopsKnownWrongFalsely : Prop := workshopsKnownRow.holds Tryz.pinned (OpenSpec.ofChange workshopsKnownWrong)

/- THE SECOND FORM. 'bulk': how many values and letters a reading holds, each counted each time it is reached (what is shared counts as often as it is met; a slice's spare places count too). A statement '..UptoSaid' is the law's where the arguments, and the package variables that the reading takes, are together of bulk at most 1048576: NARROWER than '..Said'. Prove '..Said' where nothing that the law and all that it calls make is longer than what came in: it says more and counts as full. Else prove '..UptoSaid'. A law counts once. -/
mutual
def uptoBulk {H : Type} : DataW H → Nat
  | .lit (.string bytes) => bytes.length + 1
  | .lit _ => 1
  | .nil => 1
  | .ptr d => uptoBulk d + 1
  | .slice elems spare => uptoBulkAll elems + uptoBulkAll spare + 1
  | .agg parts => uptoBulkAll parts + 1
  | .iface _ d => uptoBulk d + 1
  | .map entries => uptoBulkEntries entries + 1
  | .held _ => 1
def uptoBulkAll {H : Type} : List (DataW H) → Nat
  | [] => 0
  | d :: r => uptoBulk d + uptoBulkAll r
def uptoBulkEntries {H : Type} : List (Lit × DataW H) → Nat
  | [] => 0
  | x :: r => uptoBulkEntry x + uptoBulkEntries r
def uptoBulkEntry {H : Type} : Lit × DataW H → Nat
  | (.string bytes, d) => bytes.length + uptoBulk d + 1
  | (_, d) => uptoBulk d + 1
 end
def uptoSmall : (H : Type) → List (DataW H) → Bool := fun _ ds => decide (uptoBulkAll ds ≤ 1048576)
def OpenSpec.upto (s : _root_.Go.ChangeSpec) : _root_.Go.OpenSpec := { _root_.Go.OpenSpec.ofChange s with cond := some uptoSmall }

/-- 'ganseylaw43.WorkshopsStart', WHERE WHAT IT READS IS OF BULK AT MOST 1048576: true; the input reads as it did. -/
def workshopsStartUptoRow : OpenClaim := { program := "ytcliokpfogcphaagreatdoor", sum := "421579e0d07687ea320d6072448b993737cf06a55bf6025049291cedeaae22c1", func := "gansey/ganseylaw43.WorkshopsStart", spec := "workshopsStart", unfollowed := true, recurses := true, named := ["gansey/orders.steps"], plainKeys := false, apart := false, laid := [("gansey/orders.steps", laid_gansey_orders_steps)], narrowed := true }
def WorkshopsStartUptoSaid : Prop := workshopsStartUptoRow.holds Tryz.pinned (OpenSpec.upto workshopsStartSpec)

/-- 'ganseylaw43.WorkshopsFabric', WHERE WHAT IT READS IS OF BULK AT MOST 1048576: true; the input reads as it did. -/
def workshopsFabricUptoRow : OpenClaim := { program := "ytcliokpfogcphaagreatdoor", sum := "421579e0d07687ea320d6072448b993737cf06a55bf6025049291cedeaae22c1", func := "gansey/ganseylaw43.WorkshopsFabric", spec := "workshopsFabric", unfollowed := true, recurses := true, named := ["gansey/orders.steps"], plainKeys := false, apart := false, laid := [("gansey/orders.steps", laid_gansey_orders_steps)], narrowed := true }
def WorkshopsFabricUptoSaid : Prop := workshopsFabricUptoRow.holds Tryz.pinned (OpenSpec.upto workshopsFabricSpec)

/-- 'ganseylaw43.WorkshopsKnown', WHERE WHAT IT READS IS OF BULK AT MOST 1048576: true; the input reads as it did. -/
def workshopsKnownUptoRow : OpenClaim := { program := "ytcliokpfogcphaagreatdoor", sum := "421579e0d07687ea320d6072448b993737cf06a55bf6025049291cedeaae22c1", func := "gansey/ganseylaw43.WorkshopsKnown", spec := "workshopsKnown", unfollowed := true, recurses := true, named := ["gansey/orders.steps"], plainKeys := false, apart := false, laid := [("gansey/orders.steps", laid_gansey_orders_steps)], narrowed := true }
def WorkshopsKnownUptoSaid : Prop := workshopsKnownUptoRow.holds Tryz.pinned (OpenSpec.upto workshopsKnownSpec)

end Rows
end Go.Proofs.YtcliokpfogcphaaGreatDoor
