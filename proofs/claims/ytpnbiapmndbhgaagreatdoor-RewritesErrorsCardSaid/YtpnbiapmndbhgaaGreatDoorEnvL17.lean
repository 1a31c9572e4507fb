/-
  the examples of the chapter hold.
-/
import Derived.Test.YtpnbiapmndbhgaaGreatDoorEnvK
set_option linter.unusedSimpArgs false
set_option linter.unusedVariables false
set_option maxRecDepth 100000
set_option maxHeartbeats 4000000
section
namespace Go.Iso.Gen
open Go.Proofs
theorem zQ:Jh En 200000 (.call 17 []) tabs.length (bI tabs emptyHeap) Y7=true:=by kernel_rfl
end Go.Iso.Gen
end
