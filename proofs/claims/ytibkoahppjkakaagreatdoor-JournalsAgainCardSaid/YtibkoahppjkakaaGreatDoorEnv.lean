/-
  the environment of the evaluator is right.
-/
import Derived.Test.YtibkoahppjkakaaGreatDoorEnvL5
set_option linter.defProp false
set_option linter.unusedSimpArgs false
set_option linter.unusedVariables false
set_option maxRecDepth 100000
set_option maxHeartbeats 4000000
section
namespace Go.Iso.Gen
open Go.Proofs Go.Proofs.Tryz
def xv:EnvOk prog E0:=by refine⟨λf fn h=>pg fnT (λi=>i) f fn Nb h,λf s h=>?_⟩;have q:(if f=5 then some (jC tabs) else if f=30 then some (mu prog 1 30 YO) else none)=some s:=h;split at q;{rename_i u;injection q with q;subst q u;refine⟨mA k5,?_⟩;obtain⟨o,H0,A,E⟩:=yj Ja;have:=Ji E;subst this;exact C2 abt rfl A};split at q;{rename_i u;injection q with q;subst q u;exact⟨mA k30,λargs lo H v H' F=>LO F⟩};{cases q}
end Go.Iso.Gen
end
