/-
  the environment of the evaluator is right.
-/
import Derived.Test.YtiofebdpgbojmaaGreatDoorEnvK
set_option linter.defProp false
set_option linter.unusedSimpArgs false
set_option linter.unusedVariables false
set_option maxRecDepth 100000
set_option maxHeartbeats 4000000
section
namespace Go.Iso.Gen
open Go.Proofs Go.Proofs.Tryz
def yw:EnvOk prog E0:=by refine⟨λf fn h=>qY fnT (λi=>i) f fn NW h,λf s h=>?_⟩;have q:(if f=44 then some (nX prog 1 44 Zf) else none)=some s:=h;split at q;{rename_i A;injection q with q;subst q A;exact⟨qR k44,λargs lo H v H' E=>ME E⟩};{cases q}
end Go.Iso.Gen
end
