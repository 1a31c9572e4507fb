/-
  the environment of the evaluator is right.
-/
import Derived.Test.YtadopgcoggpcdabGreatDoorEnvL9
set_option linter.defProp false
set_option linter.unusedSimpArgs false
set_option linter.unusedVariables false
set_option maxRecDepth 100000
set_option maxHeartbeats 4000000
section
namespace Go.Iso.Gen
open Go.Proofs Go.Proofs.Tryz
def A0:EnvOk prog E0:=by refine⟨λf fn h=>sK fnT (λi=>i) f fn QW h,λf s h=>?_⟩;have q:(if f=9 then some (rN tabs) else if f=36 then some (pr prog 1 36 stC) else none)=some s:=h;split at q;{rename_i A;injection q with q;subst q A;refine⟨sD k9,?_⟩;obtain⟨o,H0,E,F⟩:=LP MC;have:=WL F;subst this;exact PU ag4 rfl E};split at q;{rename_i A;injection q with q;subst q A;exact⟨sD k36,λargs lo H v H' I=>Pv I⟩};{cases q}
end Go.Iso.Gen
end
