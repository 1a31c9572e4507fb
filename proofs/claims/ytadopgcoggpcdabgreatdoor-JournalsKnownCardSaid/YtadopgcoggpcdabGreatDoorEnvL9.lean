/-
  the examples of the chapter hold.
-/
import Derived.Test.YtadopgcoggpcdabGreatDoorEnvK
set_option linter.defProp false
set_option linter.unusedSimpArgs false
set_option linter.unusedVariables false
set_option maxRecDepth 100000
set_option maxHeartbeats 4000000
section
namespace Go.Iso.Gen
open Go.Proofs
def MC:Vu En 200000 (.call 9 []) tabs.length (dc tabs emptyHeap) isT=true:=by kernel_rfl
end Go.Iso.Gen
end
