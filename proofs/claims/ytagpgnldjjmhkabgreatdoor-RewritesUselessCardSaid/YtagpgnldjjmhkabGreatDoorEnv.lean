/-
  the environment of the evaluator is right.
-/
import Derived.Test.YtagpgnldjjmhkabGreatDoorEnvK
set_option linter.defProp false
set_option linter.unusedSimpArgs false
set_option linter.unusedVariables false
set_option maxRecDepth 100000
set_option maxHeartbeats 4000000
section
namespace Go.Iso.Gen
open Go.Proofs Go.Proofs.Tryz
def wp:EnvOk prog E0:=by refine⟨λf fn h=>sY fnT (λi=>i) f fn Wu h,λf s h=>?_⟩;have q:(if f=27 then some (lI prog 1 27 YC) else none)=some s:=h;split at q;{rename_i E;injection q with q;subst q E;exact⟨sU k27,λargs lo H v H' F=>Lb F⟩};{cases q}
end Go.Iso.Gen
end
