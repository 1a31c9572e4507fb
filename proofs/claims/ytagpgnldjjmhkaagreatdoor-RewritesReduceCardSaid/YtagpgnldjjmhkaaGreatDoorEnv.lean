/-
  the environment of the evaluator is right.
-/
import Derived.Test.YtagpgnldjjmhkaaGreatDoorEnvK
set_option linter.defProp false
set_option linter.unusedSimpArgs false
set_option linter.unusedVariables false
set_option maxRecDepth 100000
set_option maxHeartbeats 4000000
section
namespace Go.Iso.Gen
open Go.Proofs Go.Proofs.Tryz
def Bm:EnvOk prog E0:=by refine⟨λf fn h=>xU fnT (λi=>i) f fn aa5 h,λf s h=>?_⟩;have q:(if f=34 then some (qi prog 1 34 stC) else none)=some s:=h;split at q;{rename_i A;injection q with q;subst q A;exact⟨xR k34,λargs lo H v H' E=>Qz E⟩};{cases q}
end Go.Iso.Gen
end
