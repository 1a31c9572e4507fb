/-
  the environment of the evaluator is right.
-/
import Derived.Test.YtkeadbgfiiphlaaGreatDoorEnvK
set_option linter.defProp false
set_option linter.unusedSimpArgs false
set_option linter.unusedVariables false
set_option maxRecDepth 100000
set_option maxHeartbeats 4000000
section
namespace Go.Iso.Gen
open Go.Proofs Go.Proofs.Tryz
def wH:EnvOk prog E0:=by refine⟨λf fn h=>tz fnT (λi=>i) f fn X7 h,λf s h=>?_⟩;have q:(if f=31 then some (lW prog 1 31 stC) else none)=some s:=h;split at q;{rename_i E;injection q with q;subst q E;exact⟨tu k31,λargs lo H v H' F=>LD F⟩};{cases q}
end Go.Iso.Gen
end
