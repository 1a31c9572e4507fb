/-
  the environment of the evaluator is right.
-/
import Derived.Test.YtadopgcoggpcdaaGreatDoorEnvL9
set_option linter.defProp false
set_option linter.unusedSimpArgs false
set_option linter.unusedVariables false
set_option maxRecDepth 100000
set_option maxHeartbeats 4000000
section
namespace Go.Iso.Gen
open Go.Proofs Go.Proofs.Tryz
def zc:EnvOk prog E0:=by refine⟨λf fn h=>qM fnT (λi=>i) f fn QF h,λf s h=>?_⟩;have E:(if f=9 then some (pZ tabs) else if f=33 then some (mX prog 1 33 stC) else none)=some s:=h;split at E;{rename_i F;injection E with E;subst E F;refine⟨qG k9,?_⟩;obtain⟨o,H0,I,J⟩:=Kb KX;have:=WU J;subst this;exact Py ahs rfl I};split at E;{rename_i F;injection E with E;subst E F;exact⟨qG k33,λargs lo H v H' O=>O7 O⟩};{cases E}
end Go.Iso.Gen
end
