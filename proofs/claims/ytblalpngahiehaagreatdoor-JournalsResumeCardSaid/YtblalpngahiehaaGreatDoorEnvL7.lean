/-
  the examples of the chapter hold.
-/
import Derived.Test.YtblalpngahiehaaGreatDoorEnvK
set_option maxRecDepth 100000
set_option maxHeartbeats 4000000
namespace Go.Iso.Gen
open Go.Proofs
theorem Ic:Qn En 200000 (.call 7 []) tabs.length (cJ tabs emptyHeap) isT=true:=by kernel_rfl
end Go.Iso.Gen
