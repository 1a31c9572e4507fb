/-
  the environment of the evaluator is right.
-/
import Derived.Test.YtkhgaoeaednggaaGreatDoorEnvL9
import Derived.Test.YtkhgaoeaednggaaGreatDoorEnvL14
set_option linter.unusedSimpArgs false
set_option linter.unusedVariables false
set_option maxRecDepth 100000
set_option maxHeartbeats 4000000
section
namespace Go.Iso.Gen
open Go.Proofs
theorem ua:EnvOk Go.Proofs.Tryz.prog E0:=by refine⟨λf fn h=>np fnT (λi=>i) f fn JP h,λf s h=>?_⟩;have q:(if f=9 then some (fX tabs) else if f=14 then some (fX tabs) else if f=19 then some (kS Go.Proofs.Tryz.prog 1 19 Up) else none)=some s:=h;split at q;{rename_i u;injection q with q;subst q u;refine⟨kW k9,?_⟩;obtain⟨o,H0,A,E⟩:=uQ Ff;have:=Fm E;subst this;exact zq WR rfl A};split at q;{rename_i u;injection q with q;subst q u;refine⟨kW k14,?_⟩;obtain⟨o,H0,A,E⟩:=uQ Dt;have:=Fm E;subst this;exact zq WR rfl A};split at q;{rename_i u;injection q with q;subst q u;exact⟨kW Ze,λargs lo H v H' F=>Is F⟩};{cases q}
end Go.Iso.Gen
end
