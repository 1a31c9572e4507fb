/-
  the environment of the evaluator is right.
-/
import Derived.Test.YtnpfgnhnehkccaaGreatDoorEnvL20
set_option linter.defProp false
set_option linter.unusedSimpArgs false
set_option linter.unusedVariables false
set_option maxRecDepth 100000
set_option maxHeartbeats 4000000
section
namespace Go.Iso.Gen
open Go.Proofs Go.Proofs.Tryz
def wU:EnvOk prog E0:=by refine⟨λf fn h=>pi fnT (λi=>i) f fn Nb h,λf s h=>?_⟩;have q:(if f=20 then some (dG tabs) else if f=39 then some (mj prog 1 39 YT) else none)=some s:=h;split at q;{rename_i A;injection q with q;subst q A;refine⟨j2 k20,?_⟩;obtain⟨o,H0,E,F⟩:=pY Gc;have:=BB F;subst this;exact tP ZS rfl E};split at q;{rename_i A;injection q with q;subst q A;exact⟨j2 k39,λargs lo H v H' I=>LD I⟩};{cases q}
end Go.Iso.Gen
end
