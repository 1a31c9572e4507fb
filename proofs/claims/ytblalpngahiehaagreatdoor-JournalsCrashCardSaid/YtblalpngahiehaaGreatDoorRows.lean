/-
  NARROWER THAN 'FOR EVERY INPUT', by the rows' own cells (each row's printed sentence says how): JournalsErrors: laid · JournalsResume: laid · JournalsCrash: laid.
  DERIVED. THE GIVEN ROWS OF THIS SEAT. 3 by the template 'for every input the law returns true; each argument reads behind the call as it read before'; 0 by the template 'total and deterministic' (their statements: YtblalpngahiehaaGreatDoorTotals.lean).
  GIVEN WITH THE SEED: the statements are not yours to turn. If you find one false, say at which input.
  Laid BY PROGRAM, IN A SANDBOX (cutbox-rows.mjs): the forced cells as the released guide's own fill.sh prints them over the translation f53c1da07e507f35… (all of the seat's roots in one cut). By AI agents, Wed Nov 11 2026. No macro, syntax, notation, axiom, sorry.
-/
import Derived.Test.YtblalpngahiehaaGreatDoorChecked
import GoSem.Claim
import GoSem.ClaimJoined
import GoSem.ClaimMapViews
import Derived.JoinedTies
import Derived.KernelRfl
namespace Go.Proofs.YtblalpngahiehaaGreatDoor
/- THE CELL 'sum', in the pinned program and in every row, IS THE sha256 OF THE DUMP (.gsa) THAT YtblalpngahiehaaGreatDoorProg.lean LOADS. Nothing in Lean hashes anything: it is a label: what it is worth is what the hold of that sum in a sandbox is worth. -/
noncomputable def Tryz.pinned : Pinned := { name := "ytblalpngahiehaagreatdoor", sum := "f53c1da07e507f35d12b26ee66a6a339271667e602728b92baae3fa208bb488b", checked := Tryz.checked }
namespace Rows
def none {H : Type} : Left H := { results := [], args := [] }

/- WHAT THE LISTED PACKAGE-LEVEL VARIABLES READ AS WHEN THE CALL BEGINS. Each datum BY PROGRAM (the guide's laid-datum.mjs) off the statement by which the dump's own 'gosem.cut.vars' lays the variable. In a bare row this is a premise. The card (YtblalpngahiehaaGreatDoorCards.lean) ties it to the program's text. -/
def laid_gansey_orders_steps {H : Type} : DataW H := .agg [.lit (.int .i64 (-1)), .lit (.int .i64 1)]

/-- 'ganseylaw40.JournalsErrors': WHATEVER THE INPUT: true; the input reads as it did. -/
def journalsErrorsSpec : ChangeSpec := { name := "journalsErrors", fn := fun _ => fun
  | [d1, d2, d3] => { results := [.lit (.bool true)], args := [d1, d2, d3] }
  | _ => none }
def journalsErrorsRow : OpenClaim := { program := "ytblalpngahiehaagreatdoor", sum := "f53c1da07e507f35d12b26ee66a6a339271667e602728b92baae3fa208bb488b", func := "gansey/ganseylaw40.JournalsErrors", spec := "journalsErrors", unfollowed := true, recurses := true, named := ["gansey/orders.steps"], plainKeys := false, apart := false, laid := [("gansey/orders.steps", laid_gansey_orders_steps)] }
def JournalsErrorsSaid : Prop := journalsErrorsRow.holds Tryz.pinned (OpenSpec.ofChange journalsErrorsSpec)

/-- ITS FALSE NEIGHBOUR: 'it returns false'. Refute it at one input. -/
def journalsErrorsWrong : ChangeSpec := { name := "journalsErrors", fn := fun _ => fun
  | [d1, d2, d3] => { results := [.lit (.bool false)], args := [d1, d2, d3] }
  | _ => none }
def JournalsErrorsWrongFalsely : Prop := journalsErrorsRow.holds Tryz.pinned (OpenSpec.ofChange journalsErrorsWrong)

/-- 'ganseylaw40.JournalsResume': WHATEVER THE INPUT: true; the input reads as it did. -/
def journalsResumeSpec : ChangeSpec := { name := "journalsResume", fn := fun _ => fun
  | [d1, d2, d3] => { results := [.lit (.bool true)], args := [d1, d2, d3] }
  | _ => none }
def journalsResumeRow : OpenClaim := { program := "ytblalpngahiehaagreatdoor", sum := "f53c1da07e507f35d12b26ee66a6a339271667e602728b92baae3fa208bb488b", func := "gansey/ganseylaw40.JournalsResume", spec := "journalsResume", unfollowed := true, recurses := true, named := ["gansey/orders.steps"], plainKeys := false, apart := false, laid := [("gansey/orders.steps", laid_gansey_orders_steps)] }
def JournalsResumeSaid : Prop := journalsResumeRow.holds Tryz.pinned (OpenSpec.ofChange journalsResumeSpec)

/-- ITS FALSE NEIGHBOUR: 'it returns false'. Refute it at one input. -/
def journalsResumeWrong : ChangeSpec := { name := "journalsResume", fn := fun _ => fun
  | [d1, d2, d3] => { results := [.lit (.bool false)], args := [d1, d2, d3] }
  | _ => none }
def JournalsResumeWrongFalsely : Prop := journalsResumeRow.holds Tryz.pinned (OpenSpec.ofChange journalsResumeWrong)

/-- 'ganseylaw40.JournalsCrash': WHATEVER THE INPUT: true; the input reads as it did. -/
def journalsCrashSpec : ChangeSpec := { name := "journalsCrash", fn := fun _ => fun
  | [d1, d2, d3] => { results := [.lit (.bool true)], args := [d1, d2, d3] }
  | _ => none }
def journalsCrashRow : OpenClaim := { program := "ytblalpngahiehaagreatdoor", sum := "f53c1da07e507f35d12b26ee66a6a339271667e602728b92baae3fa208bb488b", func := "gansey/ganseylaw40.JournalsCrash", spec := "journalsCrash", unfollowed := true, recurses := true, named := ["gansey/orders.steps"], plainKeys := false, apart := false, laid := [("gansey/orders.steps", laid_gansey_orders_steps)] }
def JournalsCrashSaid : Prop := journalsCrashRow.holds Tryz.pinned (OpenSpec.ofChange journalsCrashSpec)

/-- ITS FALSE NEIGHBOUR: 'it returns false'. Refute it at one input. -/
def journalsCrashWrong : ChangeSpec := { name := "journalsCrash", fn := fun _ => fun
  | [d1, d2, d3] => { results := [.lit (.bool false)], args := [d1, d2, d3] }
  | _ => none }
def JournalsCrashWrongFalsely : Prop := journalsCrashRow.holds Tryz.pinned (OpenSpec.ofChange journalsCrashWrong)

/- THE SECOND FORM. 'bulk': how many values and letters a reading holds, each counted each time it is reached (what is shared counts as often as it is met; a slice's spare places count too). A statement '..UptoSaid' is the law's where the arguments, and the package variables that the reading takes, are together of bulk at most 1048576: NARROWER than '..Said'. Prove '..Said' where nothing that the law and all that it calls make is longer than what came in: it says more and counts as full. Else prove '..UptoSaid'. A law counts once. -/
mutual
def uptoBulk {H : Type} : DataW H → Nat
  | .lit (.string bytes) => bytes.length + 1
  | .lit _ => 1
  | .nil => 1
  | .ptr d => uptoBulk d + 1
  | .slice elems spare => uptoBulkAll elems + uptoBulkAll spare + 1
  | .agg parts => uptoBulkAll parts + 1
  | .iface _ d => uptoBulk d + 1
  | .map entries => uptoBulkEntries entries + 1
  | .held _ => 1
def uptoBulkAll {H : Type} : List (DataW H) → Nat
  | [] => 0
  | d :: r => uptoBulk d + uptoBulkAll r
def uptoBulkEntries {H : Type} : List (Lit × DataW H) → Nat
  | [] => 0
  | x :: r => uptoBulkEntry x + uptoBulkEntries r
def uptoBulkEntry {H : Type} : Lit × DataW H → Nat
  | (.string bytes, d) => bytes.length + uptoBulk d + 1
  | (_, d) => uptoBulk d + 1
 end
def uptoSmall : (H : Type) → List (DataW H) → Bool := fun _ ds => decide (uptoBulkAll ds ≤ 1048576)
def OpenSpec.upto (s : _root_.Go.ChangeSpec) : _root_.Go.OpenSpec := { _root_.Go.OpenSpec.ofChange s with cond := some uptoSmall }

/-- 'ganseylaw40.JournalsErrors', WHERE WHAT IT READS IS OF BULK AT MOST 1048576: true; the input reads as it did. -/
def journalsErrorsUptoRow : OpenClaim := { program := "ytblalpngahiehaagreatdoor", sum := "f53c1da07e507f35d12b26ee66a6a339271667e602728b92baae3fa208bb488b", func := "gansey/ganseylaw40.JournalsErrors", spec := "journalsErrors", unfollowed := true, recurses := true, named := ["gansey/orders.steps"], plainKeys := false, apart := false, laid := [("gansey/orders.steps", laid_gansey_orders_steps)], narrowed := true }
def JournalsErrorsUptoSaid : Prop := journalsErrorsUptoRow.holds Tryz.pinned (OpenSpec.upto journalsErrorsSpec)

/-- 'ganseylaw40.JournalsResume', WHERE WHAT IT READS IS OF BULK AT MOST 1048576: true; the input reads as it did. -/
def journalsResumeUptoRow : OpenClaim := { program := "ytblalpngahiehaagreatdoor", sum := "f53c1da07e507f35d12b26ee66a6a339271667e602728b92baae3fa208bb488b", func := "gansey/ganseylaw40.JournalsResume", spec := "journalsResume", unfollowed := true, recurses := true, named := ["gansey/orders.steps"], plainKeys := false, apart := false, laid := [("gansey/orders.steps", laid_gansey_orders_steps)], narrowed := true }
def JournalsResumeUptoSaid : Prop := journalsResumeUptoRow.holds Tryz.pinned (OpenSpec.upto journalsResumeSpec)

/-- 'ganseylaw40.JournalsCrash', WHERE WHAT IT READS IS OF BULK AT MOST 1048576: true; the input reads as it did. -/
def journalsCrashUptoRow : OpenClaim := { program := "ytblalpngahiehaagreatdoor", sum := "f53c1da07e507f35d12b26ee66a6a339271667e602728b92baae3fa208bb488b", func := "gansey/ganseylaw40.JournalsCrash", spec := "journalsCrash", unfollowed := true, recurses := true, named := ["gansey/orders.steps"], plainKeys := false, apart := false, laid := [("gansey/orders.steps", laid_gansey_orders_steps)], narrowed := true }
def JournalsCrashUptoSaid : Prop := journalsCrashUptoRow.holds Tryz.pinned (OpenSpec.upto journalsCrashSpec)

end Rows
end Go.Proofs.YtblalpngahiehaaGreatDoor
