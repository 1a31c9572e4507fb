/-
  the code that the claim reaches, for the evaluator.
-/
import Derived.Test.YtdfnadcnipppkaaGreatDoorGenA
import Derived.Test.YtdfnadcnipppkaaGreatDoorGenB
import Derived.Test.YtdfnadcnipppkaaGreatDoorGenC
import Derived.Test.YtdfnadcnipppkaaGreatDoorGenD
set_option linter.unusedSimpArgs false
set_option linter.unusedVariables false
set_option maxRecDepth 100000
set_option maxHeartbeats 4000000
set_option linter.defProp false
noncomputable section
namespace Go.Iso.Gen
open Go.Proofs Go.Proofs.Tryz
noncomputable section
section
variable {lo:Nat}{rd:Option Nat}{fr:Fr}{H:Heap}{Q:A1}{args:List IV}
end
end
end Go.Iso.Gen
end
