/-
  the environment of the evaluator is right.
-/
import Derived.Test.YtojcplbhmllaoaaGreatDoorEnvL5
set_option linter.defProp false
set_option linter.unusedSimpArgs false
set_option linter.unusedVariables false
set_option maxRecDepth 100000
set_option maxHeartbeats 4000000
section
namespace Go.Iso.Gen
open Go.Proofs Go.Proofs.Tryz
def xP:EnvOk prog E0:=by refine⟨λf fn h=>pN fnT (λi=>i) f fn Oo h,λf s h=>?_⟩;have E:(if f=5 then some (oT tabs) else if f=36 then some (mI prog 1 36 ZP) else none)=some s:=h;split at E;{rename_i F;injection E with E;subst E F;refine⟨pF k5,?_⟩;obtain⟨o,H0,I,J⟩:=I1 JM;have:=TO J;subst this;exact Nt agO rfl I};split at E;{rename_i F;injection E with E;subst E F;exact⟨pF k36,λargs lo H v H' O=>MW O⟩};{cases E}
end Go.Iso.Gen
end
