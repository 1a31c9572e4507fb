/-
  the environment of the evaluator is right.
-/
import Derived.Test.YtiofebdpgbojmaaGreatDoorEnvK
set_option linter.defProp false
set_option linter.unusedSimpArgs false
set_option linter.unusedVariables false
set_option maxRecDepth 100000
set_option maxHeartbeats 4000000
section
namespace Go.Iso.Gen
open Go.Proofs Go.Proofs.Tryz
def uY:EnvOk prog E0:=by refine⟨λf fn h=>nM fnT (λi=>i) f fn K4 h,λf s h=>?_⟩;have q:(if f=44 then some (kq prog 1 44 Wj) else none)=some s:=h;split at q;{rename_i u;injection q with q;subst q u;exact⟨rI k44,λargs lo H v H' A=>Jx A⟩};{cases q}
end Go.Iso.Gen
end
